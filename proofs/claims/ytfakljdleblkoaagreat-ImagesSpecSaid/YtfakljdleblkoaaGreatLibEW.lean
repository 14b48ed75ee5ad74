/-
  Part LibEW.
-/
import Derived.Test.YtfakljdleblkoaaGreatLibDW
set_option linter.all false
set_option maxRecDepth 10000
set_option maxHeartbeats 4000000
namespace Go.Proofs.YtfakljdleblkoaaGreat
open Go.Ideal Kd
noncomputable def UW:=qj Tryz.prog 69
theorem ae6:kU Tryz.prog 69=some UW:=vA
abbrev jq(n:Int):Value:=.int .i64 n
theorem yT:rC Tryz.prog 3 jq:=ab2 vA
variable{bm:Nat}{aj:List (Int×Value)}
theorem ae7:aU Tryz.prog (.func 303) [.map (some bm)] [] [] [wX jq bm aj] (λb:Nat=>.func (.func 319) #[] #[ptr' b]) (λ_=>[]) (λb=>[fA b 0 [.map (some bm)],wX jq bm aj]) (λ_=>True):=by
 refine aH _ (aN 303) λB w0=>?_;refine go ?_;intro b1;refine go ?_;refine bi (dR (b:=b1)) (h:=?_);exact ah b1 (hv:=rfl) (hp:=trivial)
variable{b:Nat}
theorem ae8:yJ Tryz.prog (λx:Int=>[jq x]) (.func 319) [] [ptr' b] [fA b 0 [.map (some bm)],wX jq bm aj] (λxs=>xs.Perm (aj.map (·.1))):=by
 intro S inv ok step s0 Eu y1 y2 F' h0 hok hy;rw[fM,fM,dX];refine aH _ (aN 319) λB w0=>?_;refine go ?_;refine ab5 (b:=bm) (aj:=aj) (aX:=jq) (next:=λr=>?_);refine go ?_;refine aW (λy:List (Int×Value)×S=>aj.length - y.1.length) (λy=>[]) (λy=>BZ jq r bm aj y.1::inv y.2) (λ_=>[]) (λy=>ok (y.1.map (·.1)) y.2/\(∃rest,(y.1++rest).Perm aj)/\∀rest,lX step s0 (y.1.map (·.1)++rest)=lX step y.2 rest) ([],s0) ⟨h0,⟨aj,.refl _⟩,λ_=>rfl⟩ (body:=?_);rintro⟨kH,s⟩ ⟨hos,_,hrun⟩;dsimp only at hos hrun⊢;refine go ?_;refine ab7 (b:=bm) (aj:=aj) (kH:=kH) (aX:=jq) (more:=λp rem hp=>?_) (done:=λhp=>?_) ac4
 ·have hX:(kH.map (·.1)++p.1::rem.map (·.1)).Perm (aj.map (·.1)):=by
   have:=hp.map (·.1);rw[fD,ic]at this;exact this
  have hlen:=hp.length_eq;rw[iE,oD]at hlen;have Ar:=hy _ s _ _ hos hX;refine go ?_;refine acf (aX:=jq) (aj:=aj) (kH:=kH) (p:=p) ?_;refine go ?_;refine ax Ar (next:=λ_ _=>?_);cases hst:(step s p.1).2 with
  |true=>
   have hs1:step s p.1=((step s p.1).1,true):=Prod.ext rfl hst;refine go ?_;refine aM (kH++[p],(step s p.1).1) (by show aj.length - (kH++[p]).length<_;rw[iE,zk];omega) ⟨?_,⟨rem,by show((kH++[p])++rem).Perm aj;rw[fU];exact hp⟩,λrest=>?_⟩
   ·show ok ((kH++[p]).map (·.1)) _;rw[fD];exact hok _ s _ _ hos hX hst
   ·show lX step s0 ((kH++[p]).map (·.1)++rest)=_;rw[fD,fU,hrun];show lX step s (p.1::rest)=_;rw[lX,hs1]
  |false=>
   have hs1:step s p.1=((step s p.1).1,false):=Prod.ext rfl hst;have hr:=hrun (p.1::rem.map (·.1));rw[lX,hs1]at hr;dsimp only at hr;refine go ?_;exact ah (kH.map (·.1)++p.1::rem.map (·.1)) (hv:=rfl) (hp:=hX) (hk:=by rw[hr];exact aI.self _ _)
 ·refine go ?_;have hr:=hrun [];rw[iI]at hr;exact ah (kH.map (·.1)) (hv:=rfl) (hp:=hp.map (·.1)) (hk:=by rw[hr];apply aI.there;exact aI.all _)
structure NI where
 v:Value
 xs:List Int
variable{fn:Fn}{first captured:List Value}{F1:List aK}{X:List Int->Prop}
theorem ae9(hit:yJ Tryz.prog (λx:Int=>[jq x]) fn first captured F1 X)(hl:∀xs,X xs->xs.length<=1000000):
 aU Tryz.prog (.func 153) [.slice none 0 0,.func fn ⟨first⟩ ⟨captured⟩] [] [] F1 (λy:NI=>y.v) (λy=>[ap ae y.v y.xs]) (λ_=>[]) (λy=>X y.xs):=by
 refine Mg Ul aef λB w0=>?_;refine go ?_;intro b2;refine gH ae ?_;refine Rx (λv:Value=>[pt b2 (.cells [v]),ap ae v ([]:List Int)]) (.slice none 0 0) (h:=?_);refine Ie (Z:=Nat) (λ(ys:List Int) (x:Int)=>(ys++[x],Out.normal)) (λys=>[aei ae b2 ys]) (λvs ys=>ys=vs) [] _ (λ_ _=>[]) rfl (λvs s x rest hs hX _=>by rw[hs]) hit C1 ?_ ?_ (λ_ _=>trivial)
 ·exact eo
 ·exact ew
theorem afa(hit:yJ Tryz.prog (λx:Int=>[jq x]) fn first captured F1 X)(hl:∀xs,X xs->xs.length<=1000000):
 aU Tryz.prog (.func 101) [.func fn ⟨first⟩ ⟨captured⟩] [] [] F1 (λy:NI=>y.v) (λy=>[ap ae y.v y.xs]) (λ_=>[]) (λy=>X y.xs):=by
 refine aH Um aeg λB w0=>?_;refine go ?_;refine ax (ae9 hit hl) (next:=λy hy=>?_);dsimp only[List.cons_append,List.nil_append];refine go ?_;exact ah y (hv:=rfl) (hp:=hy)
theorem UX(hit:yJ Tryz.prog (λx:Int=>[jq x]) fn first captured F1 X)(hl:∀xs,X xs->xs.length<=1000000):
 aU Tryz.prog (.func 69) [.func fn ⟨first⟩ ⟨captured⟩] [] [] F1 (λy:NI=>y.v) (λy=>[ap ae y.v (bM y.xs)]) (λ_=>[]) (λy=>X y.xs):=by
 refine aH UW ae6 λB w0=>?_;refine go ?_;refine ax (afa hit hl) (next:=λy hy=>?_);obtain⟨v,xs⟩:=y;dsimp only[List.cons_append,List.nil_append]at hy⊢;have hlen:=hl _ hy;refine pV (E:=ae) (v:=v) (xs:=xs) λa hv=>?_;subst hv;refine go ?_;refine ax (Jh (a:=a) (zs:=xs) rfl vj) (next:=λ_ _=>?_);refine go ?_;exact ah ⟨.slice a xs.length xs.length,xs⟩ (hv:=rfl) (hp:=hy)
variable{g:bz}{vh vc:Value}
theorem EX{kf:Int×Int->Int×Bool}(hg:eD g)
 (hk:∀p∈bB g,aU Tryz.prog fn (first++[Ad p.2]) captured [] F1 (λ_:Unit=>.tuple ⟨[.int .i64 (kf p.2).1,.bool (kf p.2).2]⟩) (λ_=>[]) (λ_=>[]) (λ_=>True)):
 aU Tryz.prog (.func 261) [.agg ⟨iH g vh vc⟩,.func fn ⟨first⟩ ⟨captured⟩] [] [] (ai ae vh g.holes::ai ae vc g.cells::F1) (λv:Value=>v) (λv=>[ap (ak ae) v (iL g kf)]) (λ_=>[]) (λ_=>True):=by
 have hgl:=hg.len;have hsl:=pM g;refine Mg _ (aN 261) λB w0=>?_;refine go ?_;intro b2 b3;refine go ?_;refine yH jq (λbm=>?_);refine go ?_;intro b5;refine acD ae (b:=bm) (aX:=jq) ?_;refine go ?_;refine ax (NG (g:=g) (vh:=vh) (vc:=vc)) (next:=λbs _=>?_);refine go ?_;refine Ie (Z:=Nat) (λ(m:List (Int×List Int)) (x:Int×(Int×Int))=>(vJ kf m x,.normal)) (λm=>[Ez jq ae bm m,pt b5 (.cells [.map (some bm)]),pt b3 (.cells [.func fn ⟨first⟩ ⟨captured⟩])]) (λvs m=>m=ji kf vs) [] _ (λx b8=>[pt b8 (.cells [.int .i64 x.2.1,.int .i64 x.2.2])]) rfl (λvs s x rest hs _ _=>by rw[hs,EE]) (NF (b1:=bs) (vh:=vh) (vc:=vc) hg) B7 ?_ ?_ (λ_ _=>trivial)
 ·intro vs s x rest b8 lo L B w0 hs hX;dsimp only[List.cons_append,List.nil_append];obtain⟨hc,hvl,hxm⟩:=IC hX;have hkx:=hk x hxm;have hin:=MO kf vs.length vs rfl;rw[<- hs]at hin;have hst:vJ kf s x=cond (kf x.2).2 (upd (kf x.2).1 ((dG (kf x.2).1 s).getD []++[x.1]) s) s:=rfl;rw[hst];obtain⟨c,s1,s2⟩:=x;dsimp only at hc hkx hst⊢;subst hc;rcases hq:kf (s1,s2)with⟨kn,kb⟩
  rw[hq]at hkx;dsimp only at hkx⊢;refine go ?_;refine ax hkx (next:=λ_ _=>?_);cases kb with
  |false=>
   dsimp only[cond];refine go ?_;exact jz
  |true=>
   dsimp only[cond];have hln:=hin.2 kn;refine go ?_;refine acE (aX:=jq) (E:=ae) (b:=bm) (m:=s) kn (h:=λaj v hkeys hv=>?_);refine Es (b:=bm) (aj:=aj) yT kn ?_;rw[hv];refine go ?_;intro b30;refine go ?_;refine Su (xs:=(dG kn s).getD []) ae (vs.length:Int) () vj (next:=λad=>?_);refine go ?_;refine wY (b:=bm) (v:=.slice ad (((dG kn s).getD []).length+1) (((dG kn s).getD []).length+1)) (aj:=aj) yT kn ?_;refine acF (E:=ae) (v:=.slice ad (((dG kn s).getD []).length+1) (((dG kn s).getD []).length+1)) (xs:=(dG kn s).getD []++[(vs.length:Int)]) kn hkeys ?_;refine go ?_;exact jz
 ·intro r xs hX;subst hX;rw[Ji (vJ kf)];dsimp only[List.cons_append,List.nil_append];rw[show(bB g).foldl (vJ kf) []=ji kf (bB g)from rfl];have hin:=MO kf _ (bB g) rfl;rw[hsl]at hin;have hL:iL g kf=(bM ((ji kf (bB g)).map (·.1))).map λn=>(dG n (ji kf (bB g))).getD []:=rfl;generalize hm:ji kf (bB g)=m at hin hL⊢;refine acG (aX:=jq) (E:=ae) (b:=bm) (m:=m) (λaj hkeys=>?_);have hkl:aj.length=m.length:=by have:=congrArg List.length hkeys;simpa using this
  refine bi (BX (aX:=jq) (b:=bm) (aj:=aj)) (h:=?_);refine bi (acH (E:=ae) (aj:=aj) (m:=m) hkeys) (h:=?_);refine bi (dR (b:=b5)) (h:=?_);refine go ?_;refine ax (ae7 (bm:=bm) (aj:=aj)) (next:=λbk _=>?_);refine go ?_;refine ax (UX (ae8 (b:=bk) (bm:=bm) (aj:=aj)) (λxs h=>by have:=h.length_eq;rw[cz]at this;omega)) (next:=λy hy=>?_);obtain⟨vk,ks⟩:=y;dsimp only[List.cons_append,List.nil_append]at hy⊢;have hks:bM ks=bM (m.map (·.1)):=Tn (by rw[<- hkeys];exact hy);rw[hks];have hkn:(bM (m.map (·.1))).length=m.length:=by rw[yI,cz]
  have hmem:∀n∈bM (m.map (·.1)),n∈m.map (·.1):=λn h=>uD.1 h;generalize hK:bM (m.map (·.1))=ns at hkn hL hmem⊢;refine bi (fQ (E:=ae) (v:=vk) (xs:=ns)) (h:=?_);refine aT (E:=ae) (v:=vk) (xs:=ns) vm λa c e=>?_;subst e;refine go ?_;refine gH (ak ae) ?_;refine aW (λy:Nat×Value=>ns.length - y.1) (λy=>[(36,.int .i64 (y.1:Int)),(4,y.2)]) (λy=>[ap (ak ae) y.2 ((ns.take y.1).map λn=>(dG n m).getD [])]) (λ_=>[]) (λy=>y.1<=ns.length) (0,.slice none 0 0) (bQ _) (hk:=we) (body:=?_);rintro⟨k,v4⟩ hk2;dsimp only at hk2⊢;refine go ?_;refine az rfl (λh1=>?_) (λh1=>?_)
  ·refine go ?_;intro _ _ n hn;obtain⟨v,hv⟩:=ED (a:=n) (l:=aj) (by rw[hkeys];exact hmem n (aP hn));obtain⟨xs,hxs⟩:=ED (a:=n) (l:=m) (hmem n (aP hn));have hlv:kG false (.slice none 0 0) n aj=v:=by unfold kG;rw[hv];rfl
   have htk:(ns.take (k+1)).map (λn=>(dG n m).getD [])=(ns.take k).map (λn=>(dG n m).getD [])++[xs]:=by
    rw[bU hn,fD,r9,hxs];rfl
   have hxl:((ns.take k).map (λn=>(dG n m).getD [])).length=k:=by rw[cz,ig];omega
   refine fK (ai ae v xs) (λw hw=>hw (Sy ae aj m) vm n v xs hv hxs) ?_;refine aT (E:=ae) (v:=v) (xs:=xs) vm λa2 c2 e2=>?_;subst e2;refine go ?_;refine R6 (aX:=jq) (b:=bm) (aj:=aj) yT n ?_;rw[hlv];refine go ?_;intro b44;refine go ?_;refine fw (xs:=(ns.take k).map λn=>(dG n m).getD []) (ak ae) xs (.slice a2 xs.length c2) (by rw[hxl];omega) (next:=λad=>?_);rw[<- htk];refine go ?_;exact aM (k+1,.slice ad (((ns.take k).map λn=>(dG n m).getD []).length+1) (((ns.take k).map λn=>(dG n m).getD []).length+1)) (by show ns.length - (k+1)<ns.length - k;omega) wA
  have hke:k=ns.length:=vj
  subst hke;rw[bJ,<- hL];refine go ?_;exact H6 v4 (hv:=rfl) (hp:=trivial)
abbrev EY(fn:Fn)(first captured:List Value)(F1:List aK)(g:bz)(kf:Int×Int->Int×Bool):Prop:=
 ∀p∈bB g,aU Tryz.prog fn (first++[Ad p.2]) captured [] F1 (λ_:Unit=>.tuple ⟨[.int .i64 (kf p.2).1,.bool (kf p.2).2]⟩) (λ_=>[]) (λ_=>[]) (λ_=>True)
theorem afb:EY (.func 262) [] [] [] g (λs=>(s.2,true)):=λp hp=>by
 refine aH _ (aN 262) λB w0=>?_;refine go ?_;intro b1;refine go ?_;exact ah () (hv:=rfl) (hp:=trivial)
theorem afc:EY (.func 263) [] [] [] g (λs=>(s.1,true)):=λp hp=>by
 refine aH _ (aN 263) λB w0=>?_;refine go ?_;intro b1;refine go ?_;exact ah () (hv:=rfl) (hp:=trivial)
theorem afd(hg:eD g):EY (.func 304) [] [] [] g (λs=>(s.1+s.2,true)):=λp hp=>by
 have hb:=IB hg p hp;obtain⟨c,s1,s2⟩:=p;dsimp only at hb⊢;refine aH _ (aN 304) λB w0=>?_;refine go ?_;intro b1;refine go ?_;exact ah () (hv:=rfl) (hp:=trivial)
theorem afe(hg:eD g):EY (.func 305) [] [] [] g (λs=>(0,decide (s.1=s.2))):=λp hp=>by
 have hb:=IB hg p hp;refine aH _ (aN 305) λB w0=>?_;refine go ?_;intro b1;refine go ?_;exact ah () (hv:=rfl) (hp:=trivial)
theorem aff(hg:eD g):EY (.func 306) [] [ptr' b] [fA b 0 (iH g vh vc)] g (λs=>(0,decide (s.1+s.2=g.w - 1))):=λp hp=>by
 have hb:=IB hg p hp;obtain⟨c,s1,s2⟩:=p;dsimp only at hb⊢;have hw:=hg.make.wi;refine aH _ (aN 306) λB w0=>?_;refine go ?_;intro b1;refine go ?_;exact ah () (hv:=rfl) (hp:=trivial)
theorem afg(hg:eD g):
 aU Tryz.prog (.func 264) [.agg ⟨iH g vh vc⟩] [] [] (jk g vh vc) (λv:Value=>v) (λv=>[ap (ak ae) v (kK g)]) (λ_=>[]) (λ_=>True):=by
 refine aH _ (aN 264) λB w0=>?_;refine go ?_;intro b1;refine bi (dR (b:=b1)) (h:=?_);refine go ?_;refine az rfl (λh1=>?_) (λh1=>?_)
 ·refine go ?_;refine ax (EX (kf:=λs=>(s.1+s.2,true)) (vh:=vh) (vc:=vc) hg (afd hg)) (next:=λv _=>?_);refine go ?_;exact ah v (hv:=rfl) (hp:=trivial) (hk:=by unfold kK;rw[if_pos h1];exact aI.all _)
 refine go ?_;refine az rfl (λh2=>?_) (λh2=>?_)
 ·refine go ?_;refine gH (ak ae) ?_;exact ah (.slice none 0 0) (hv:=rfl) (hp:=trivial) (hk:=by unfold kK;rw[if_neg h1,if_neg h2];exact aI.all _)
 have h2:g.w=g.h:=gT.1 h2;refine go ?_;refine ax (EX (kf:=λs=>(0,decide (s.1=s.2))) (vh:=vh) (vc:=vc) hg (afe hg)) (next:=λva _=>?_);refine go ?_;refine ax (EX (kf:=λs=>(0,decide (s.1+s.2=g.w - 1))) (vh:=vh) (vc:=vc) hg (aff (vh:=vh) (vc:=vc) (b:=b1) hg)) (next:=λvb _=>?_);have hA:=IE hg (λs=>(0,decide (s.1=s.2)));have hB:=IE hg (λs=>(0,decide (s.1+s.2=g.w - 1)));have hD:kK g=jJ (iL g (λs=>(0,decide (s.1=s.2)))) (iL g (λs=>(0,decide (s.1+s.2=g.w - 1)))):=by unfold kK;rw[if_neg h1,if_pos h2]
 generalize iL g (λs=>(0,decide (s.1=s.2)))=la at hA hD⊢;generalize iL g (λs=>(0,decide (s.1+s.2=g.w - 1)))=lb at hB hD⊢;have hF:=MP hA.2 hB.2;refine bi (fQ (E:=ak ae) (v:=vb) (xs:=lb)) (h:=?_);refine aT (E:=ak ae) (v:=vb) (xs:=lb) vm λa c e=>?_;subst e;refine go ?_;refine aW (λy:Nat×Value=>lb.length - y.1) (λy=>[(22,.int .i64 (y.1:Int)),(3,y.2)]) (λy=>[ap (ak ae) y.2 (jJ la (lb.take y.1))]) (λ_=>[]) (λy=>y.1<=lb.length) (0,va) (bQ _) (hk:=we) (body:=?_);rintro⟨k,v3⟩ hk2;dsimp only at hk2⊢;have NJ:=hF k;refine go ?_;refine az rfl (λh3=>?_) (λh3=>?_)
 ·refine go ?_;refine bq (ak ae) (xs:=lb) (next:=λ_ _ ln (vl:Value) hl=>?_);have hs:=Tu (a:=la) hl;have hll:=hB.2 ln (aP hl);generalize jJ la (lb.take k)=acc at NJ hs⊢;refine pV (E:=ak ae) (v:=v3) (xs:=acc) λa3 e3=>?_;subst e3;refine aT (E:=ae) (v:=vl) (xs:=ln) vm λa4 c4 e4=>?_;subst e4;cases acc with
  |nil=>
   have hs2:jJ la (lb.take (k+1))=[]++[ln]:=hs;refine go ?_;intro b39;refine go ?_;refine fw (xs:=([]:List (List Int))) (ak ae) ln (.slice a4 ln.length c4) vm (next:=λad=>?_);rw[<- hs2];refine go ?_;exact aM (k+1,.slice ad (([]:List (List Int)).length+1) (([]:List (List Int)).length+1)) B8 wA
  |cons a0 acc=>
   have ha0:=NJ.2 a0 (cZ ..);refine go ?_;refine Io ae 0 a0 rfl (next:=λ_ _ u=>?_);refine go ?_;refine ax (uH (xs:=a0) (ys:=ln) vj) (next:=λ_ _=>?_);by_cases h4:a0=ln
   rotate_left
   ·rw[aS h4];have hs2:jJ la (lb.take (k+1))=(a0::acc)++[ln]:=by rw[hs];unfold sZ;rw[if_neg (show¬((a0::acc).head? =some ln)from λe=>h4 (Option.some.inj e))]
    refine go ?_;intro b39;refine go ?_;refine fw (xs:=a0::acc) (ak ae) ln (.slice a4 ln.length c4) (by have:=NJ.1;omega) (next:=λad=>?_);rw[<- hs2];refine go ?_;exact aM (k+1,.slice ad ((a0::acc).length+1) ((a0::acc).length+1)) B8 wA
   ·rw[eY h4];have hs2:jJ la (lb.take (k+1))=a0::acc:=by rw[hs];unfold sZ;rw[if_pos (by rw[h4];rfl)]
    rw[show ap (ak ae) (Value.slice a3 (a0::acc).length (a0::acc).length) (a0::acc)=ap (ak ae) (Value.slice a3 (a0::acc).length (a0::acc).length) (jJ la (lb.take (k+1)))from congrArg _ hs2.symm];refine go ?_;exact aM (k+1,.slice a3 (a0::acc).length (a0::acc).length) B8 wA
 have hke:k=lb.length:=vj
 subst hke;rw[bJ,<- hD];refine go ?_;exact ah v3 (hv:=rfl) (hp:=trivial)
theorem afi{c:Nat}:aU Tryz.prog (.func 44) [.slice none 0 c] [] [] [] (λ_:Unit=>.slice none 0 0) (λ_=>[]) (λ_=>[]) (λ_=>True):=by
 refine aH Jg NA λB w0=>?_;refine go ?_;refine(fq rfl rfl (Ex (e:=3) vA rfl)).h ?_;refine go ?_;exact ah () (hv:=rfl) (hp:=trivial)
theorem afj{v:Value}{xs:List Int}(hl:xs.length<=4096):aU Tryz.prog (.func 44) [v] [] [] [ai ae v xs,Ip v xs] (λv':Value=>v') (λv'=>[ap ae v' xs]) (λ_=>[]) (λ_=>True):=by
 intro B w s;by_cases hx:xs=[]
 ·have hv:v=.slice none 0 0:=s.facts (Ip v xs) (dA _ (cZ ..)) hx;subst hx hv;refine .qY _ (afi (c:=0) B w ⟨s.agree,s.le,s.gF,s.own,λf hf=>(by cases hf)⟩) ?_;rintro r pm h' ⟨hp,w',y,e1,st,e2,_⟩;obtain⟨S,q1,q2,q3⟩:=st.own;exact⟨hp,w',.slice none 0 0,e1,⟨st.agree,st.le,st.gF,⟨S,⟨[],S,.inl ⟨rfl,rfl,rfl⟩,q1,rfl⟩,q2,q3⟩,st.facts⟩,e2,trivial⟩
 ·obtain⟨aF,h1,h2⟩:=Sb (s.facts (ai ae v xs) (cZ ..));have hlen:aF.length=xs.length:=by rw[<- h1,cz]
  refine .qY _ (UL (v:=v) (aF:=aF) vj B w ⟨s.agree,s.le,s.gF,s.own,λf hf=>by rw[bK.1 hf];exact h2⟩) ?_;rintro r pm h' ⟨hp,w',y,e1,st,e2,_⟩;subst h1;exact⟨hp,w',y,e1,st.SK (by rw[hlen];exact AX.2 hx) (λp hp f hf=>by cases hf),e2,trivial⟩
abbrev Jj(g:bz)(k:Int)(y:NH):List aK:=[mQ (y.e=0) (ai (ak ae) y.v (dx g k))]
theorem afk{k:Int}(hS:qC g):
 aU Tryz.prog (.func 176) [.agg ⟨iH g vh vc⟩,.int .i64 k] [] [] (jk g vh vc) vY (λ_=>[]) (λy=>Jj g k y) (λy=>y.e=0↔eD g/\0<=k/\k<=7):=by
 refine aH _ (aN 176) λB w0=>?_;refine go ?_;intro b2;refine bi (dR (b:=b2)) (h:=?_);refine go ?_;refine ax (UT (g:=g) (vh:=vh) (vc:=vc) hS) (next:=λy hy=>?_);obtain⟨vn,e⟩:=y;dsimp only at hy⊢;refine go ?_;refine az rfl (λh1=>?_) (λh1=>?_)
 ·exact j0
 have he:e=0:=gT.1 h1;subst he;have hg:=hy.1 rfl;have hgl:=hg.len;have hnl:=uC g;have hnm:=EF (g:=g);refine fK (ai (sV ae) vn (bI g)) (λw hw=>hw (mQ ((0:Int)=0) (ai (sV ae) vn (bI g))) vm rfl) ?_;refine fK (ai (ak ae) vn (bI g)) (λw hw=>SI (hw (ai (sV ae) vn (bI g)) vm)) ?_;refine aT (E:=ak ae) (v:=vn) (xs:=bI g) vm λan cn en=>?_;subst en;refine go ?_;refine az rfl (λhk=>?_) (λhk0=>?_)
 ·subst hk;have hf:dx g 0=lK g.cells.length:=by simp[dx]
  refine go ?_;refine gH (ak ae) ?_;refine aW (λy:Nat×Value=>g.cells.length - y.1) (λy=>[(31,.int .i64 (y.1:Int)),(4,y.2)]) (λy=>[ap (ak ae) y.2 (lK y.1)]) (λ_=>[]) (λy=>y.1<=g.cells.length) (0,.slice none 0 0) (bQ _) (hk:=we) (body:=?_);rintro⟨i,v4⟩ hi;dsimp only at hi⊢;have hil:=MQ i;refine go ?_;refine az rfl (λh2=>?_) (λh2=>?_)
  ·refine go ?_;intro xD yU;refine bi (A:=pt xD (.cells [.int .i64 (i:Int)])) (fs:=[ai ae (.slice (some ⟨xD,0,some 0⟩) 1 1) [(i:Int)]]) (D7 (b:=xD) (f:=0) (c:=1) (xs:=[(i:Int)])) (h:=?_);refine go ?_;refine fw (xs:=lK i) (ak ae) [(i:Int)] (.slice (some ⟨xD,0,some 0⟩) 1 1) vj (next:=λad=>?_);rw[<- Tv];refine go ?_;exact aM (i+1,.slice ad ((lK i).length+1) ((lK i).length+1)) AI xf
  have hie:i=g.cells.length:=vj
  subst hie;refine bi (fQ (E:=ak ae) (v:=v4) (xs:=lK g.cells.length)) (h:=?_);refine go ?_;refine lu (c:=(0:Int)=0) (f:=ai (ak ae) v4 (dx g 0)) w7 ?_;exact ef
 refine go ?_;refine az rfl (λhk=>?_) (λhk1=>?_)
 ·subst hk;have hf:dx g 1=iL g (λs=>(s.2,true)):=by simp[dx]
  refine go ?_;refine ax (EX (kf:=λs=>(s.2,true)) (vh:=vh) (vc:=vc) hg afb) (next:=λv4 _=>?_);refine bi (fQ (E:=ak ae) (v:=v4) (xs:=iL g (λs=>(s.2,true)))) (h:=?_);refine go ?_;refine lu (c:=(0:Int)=0) (f:=ai (ak ae) v4 (dx g 1)) w7 ?_;exact ef
 refine go ?_;refine az rfl (λhk=>?_) (λhk2=>?_)
 ·subst hk;have hf:dx g 2=iL g (λs=>(s.1,true)):=by simp[dx]
  refine go ?_;refine ax (EX (kf:=λs=>(s.1,true)) (vh:=vh) (vc:=vc) hg afc) (next:=λv4 _=>?_);refine bi (fQ (E:=ak ae) (v:=v4) (xs:=iL g (λs=>(s.1,true)))) (h:=?_);refine go ?_;refine lu (c:=(0:Int)=0) (f:=ai (ak ae) v4 (dx g 2)) w7 ?_;exact ef
 refine go ?_;refine az rfl (λhk=>?_) (λhk3=>?_)
 ·subst hk;have hf:dx g 3=kK g:=by simp[dx]
  refine go ?_;refine ax (afg (vh:=vh) (vc:=vc) hg) (next:=λv4 _=>?_);refine bi (fQ (E:=ak ae) (v:=v4) (xs:=kK g)) (h:=?_);refine go ?_;refine lu (c:=(0:Int)=0) (f:=ai (ak ae) v4 (dx g 3)) w7 ?_;exact ef
 refine go ?_;refine az rfl (λhk=>?_) (λhk4=>?_)
 ·subst hk;have hf:dx g 4=bI g:=by simp[dx]
  exact gC
 refine go ?_;refine az rfl (λhk=>?_) (λhk5=>?_)
 ·subst hk;have hf:dx g 5=kL (bI g):=by simp[dx]
  generalize bI g=aD at hnl hnm hf⊢;refine go ?_;refine gH (ak ae) ?_;refine aW (λy:Nat×Value=>aD.length - y.1) (λy=>[(59,.int .i64 (y.1:Int)),(4,y.2)]) (λy=>[ap (ak ae) y.2 (kL (aD.take y.1))]) (λ_=>[]) (λy=>y.1<=aD.length) (0,.slice none 0 0) (bQ _) (hk:=we) (body:=?_);rintro⟨i,v4⟩ hi;dsimp only at hi⊢;have hil:(kL (aD.take i)).length=i:=by rw[MS,ig];omega
  refine go ?_;refine az rfl (λh2=>?_) (λh2=>?_)
  ·refine go ?_;refine bq (sV ae) (xs:=aD) (next:=λ_ _ ln (vl:Value) hl=>?_);have hll:=hnm ln (aP hl);refine go ?_;refine ax (afj (v:=vl) (xs:=ln) vj) (next:=λvc2 _=>?_);refine go ?_;intro b67;refine go ?_;refine fw (xs:=ln) ae (i:Int) () vj (next:=λad=>?_);refine go ?_;have hl1:ln.length+1=(ln++[(i:Int)]).length:=by simp
   rw[hl1];refine ax (Jh (a:=ad) (zs:=ln++[(i:Int)]) rfl wx) (next:=λ_ _=>?_);have hz0:bM (ln++[(i:Int)])≠[]:=λe=>by have:=yI (ln++[(i:Int)]);rw[e]at this;simp at this
   have hfs:=Tw hl;generalize hzz:bM (ln++[(i:Int)])=zs at hfs⊢;refine bi (fQ (E:=ae) (v:=.slice ad (ln++[(i:Int)]).length (ln++[(i:Int)]).length) (xs:=zs)) (h:=?_);refine go ?_;intro b73;refine go ?_;refine fw (xs:=kL (aD.take i)) (ak ae) zs (.slice ad (ln++[(i:Int)]).length (ln++[(i:Int)]).length) vj (next:=λrJ=>?_);rw[<- hfs];refine go ?_;exact aM (i+1,.slice rJ ((kL (aD.take i)).length+1) ((kL (aD.take i)).length+1)) C2 xf
  have hie:i=aD.length:=vj
  subst hie;rw[bJ];refine bi (fQ (E:=ak ae) (v:=v4) (xs:=kL aD)) (h:=?_);refine go ?_;refine lu (c:=(0:Int)=0) (f:=ai (ak ae) v4 (dx g 5)) w7 ?_;exact ef
 refine go ?_;refine az rfl (λhk=>?_) (λhk6=>?_)
 ·subst hk;have hf:dx g 6=gZ (bI g):=by simp[dx]
  generalize bI g=aD at hnl hnm hf⊢;have h6:=IG hnm;refine go ?_;refine gH (ak ae) ?_;refine aW (λy:Nat×Value=>aD.length - y.1) (λy=>[(80,.int .i64 (y.1:Int)),(4,y.2)]) (λy=>[ap (ak ae) y.2 (gZ (aD.take y.1))]) (λ_=>[]) (λy=>y.1<=aD.length) (0,.slice none 0 0) (bQ _) (hk:=we) (body:=?_);rintro⟨i,v4⟩ hi;dsimp only at hi⊢;have hil:=h6 i hi;refine go ?_;refine az rfl (λh2=>?_) (λh2=>?_)
  ·refine go ?_;refine bq (ak ae) (xs:=aD) (next:=λ_ _ ln (vl:Value) hl=>?_);have hll:=hnm ln (aP hl);have hfs:=MV hl;refine aT (E:=ae) (v:=vl) (xs:=ln) vm λa4 c4 e4=>?_;subst e4;refine go ?_;refine aW (λy:Nat×Value=>ln.length - y.1) (λy=>[(87,.int .i64 (y.1:Int)),(4,y.2)]) (λy=>[ap (ak ae) y.2 (gZ (aD.take i)++jc i (ln.take y.1))]) (λ_=>[]) (λy=>y.1<=ln.length) (0,v4) (bQ _) (hk:=by rw[show gZ (aD.take i)++jc i (ln.take 0)=gZ (aD.take i)from iI _];repeat (first|exact aI.nil|(apply aI.cons;(focus (repeat (first|exact ay.here|apply ay.there)))))) (body:=?_);rintro⟨j,v5⟩ hj;dsimp only at hj⊢;have hpl:=MU i (ln.take j);rw[ig]at hpl;have hal:(gZ (aD.take i)++jc i (ln.take j)).length<=2000:=by rw[iE];omega
   refine go ?_;refine az rfl (λh3=>?_) (λh3=>?_)
   ·refine go ?_;intro _ _ x hx;have hps:=Tx (i:=i) hx;refine go ?_;refine az rfl (λh4=>?_) (λh4=>?_)
    ·have Av:gZ (aD.take i)++jc i (ln.take (j+1))=(gZ (aD.take i)++jc i (ln.take j))++[[(i:Int),x]]:=by rw[hps,if_pos vj,fU]
     refine go ?_;intro xE b98;refine bi (A:=pt xE (.cells [.int .i64 (i:Int),.int .i64 x])) (fs:=[ai ae (.slice (some ⟨xE,0,some 0⟩) 2 2) [(i:Int),x]]) (D7 (b:=xE) (f:=0) (c:=2) (xs:=[(i:Int),x])) (h:=?_);refine go ?_;refine fw (xs:=gZ (aD.take i)++jc i (ln.take j)) (ak ae) [(i:Int),x] (.slice (some ⟨xE,0,some 0⟩) 2 2) vj (next:=λrJ=>?_);rw[<- Av];refine go ?_;exact aM (j+1,.slice rJ ((gZ (aD.take i)++jc i (ln.take j)).length+1) ((gZ (aD.take i)++jc i (ln.take j)).length+1)) C3 xj
    ·have Av:gZ (aD.take i)++jc i (ln.take (j+1))=gZ (aD.take i)++jc i (ln.take j):=by rw[hps,if_neg vj,iI]
     exact oy
   have gV:j=ln.length:=vj
   subst gV;rw[bJ,<- hfs];refine go ?_;exact aM (i+1,v5) C2 xf
  have hie:i=aD.length:=vj
  subst hie;rw[bJ];refine bi (fQ (E:=ak ae) (v:=v4) (xs:=gZ aD)) (h:=?_);refine go ?_;refine lu (c:=(0:Int)=0) (f:=ai (ak ae) v4 (dx g 6)) w7 ?_;exact ef
 refine go ?_;refine az rfl (λhk=>?_) (λhk7=>?_)
 ·subst hk;have hf:dx g 7=[upTo' g.cells.length]:=by simp[dx]
  refine go ?_;refine gH ae ?_;refine aW (λy:Nat×Value=>g.cells.length - y.1) (λy=>[(107,.int .i64 (y.1:Int)),(15,y.2)]) (λy=>[ap ae y.2 (upTo' y.1)]) (λ_=>[]) (λy=>y.1<=g.cells.length) (0,.slice none 0 0) (bQ _) (hk:=we) (body:=?_);rintro⟨i,v15⟩ hi;dsimp only at hi⊢;have hil:=oO i;refine go ?_;refine az rfl (λh2=>?_) (λh2=>?_)
  ·refine go ?_;intro ajB;exact cE
  have hie:i=g.cells.length:=vj
  subst hie;refine bi (fQ (E:=ae) (v:=v15) (xs:=upTo' g.cells.length)) (h:=?_);refine aT (E:=ae) (v:=v15) (xs:=upTo' g.cells.length) vm λa4 c4 e4=>?_;subst e4;refine go ?_;intro Jk;refine bi (dR (b:=Jk)) (h:=?_);refine fK (ai (ak ae) (Au Jk 1) [upTo' g.cells.length]) (λw hw=>Ry (v:=.slice a4 (upTo' g.cells.length).length c4) (hw _ vm) (hw _ vm)) ?_;refine go ?_;refine lu (c:=(0:Int)=0) (f:=ai (ak ae) (Au Jk 1) (dx g 7)) w7 ?_;exact ah ⟨Au Jk 1,0⟩ (hv:=rfl) (hp:=⟨λ_=>⟨hg,vj,vj⟩,λ_=>rfl⟩)
 refine go ?_;refine mg (c:=(1:Int)=0) (f:=ai (ak ae) (.slice none 0 0) (dx g k)) vj ?_;exact ah ⟨.slice none 0 0,1⟩ (hv:=rfl) (hp:=⟨(λh=>by cases h),(λh=>by exfalso;obtain⟨_,q1,q2⟩:=h;omega)⟩)
abbrev Jl(g:bz)(rs:List (List Int))(y:NH):List aK:=[mQ (y.e=0) (ai (ak ae) y.v (dU g rs))]
theorem UY{vr:Value}{rs:List (List Int)}(hS:qC g)(hrl:rs.length<9223372036854775808)(hrs:∀ps∈rs,ps.length<9223372036854775808):
 aU Tryz.prog (.func 177) [.agg ⟨iH g vh vc⟩,vr] [] [] (ai (ak ae) vr rs::jk g vh vc) vY (λ_=>[]) (λy=>Jl g rs y) (λy=>y.e=0↔eD g/\vN g rs):=by
 refine aH _ (aN 177) λB w0=>?_;refine aT (E:=ak ae) (v:=vr) (xs:=rs) vm λar cr er=>?_;subst er;refine go ?_;intro b2;refine bi (dR (b:=b2)) (h:=?_);refine go ?_;refine ax (UO (g:=g) hS) (next:=λe he=>?_);refine go ?_;refine gG (λh1=>?_) (λh1=>?_)
 rotate_left
 ·exact iu
 have hg:=he.1 vj;have hgl:=hg.len;have lM:g.cells.Pairwise (·<·):=Bs
 refine go ?_;refine az rfl (λh2=>?_) (λh2=>?_)
 ·exact ia
 refine go ?_;refine gH (ak ae) ?_;refine aW (λy:Nat×Value=>rs.length - y.1) (λy=>[(24,.int .i64 (y.1:Int)),(4,y.2)]) (λy=>[ap (ak ae) y.2 (dU g (rs.take y.1))]) (λ_=>[]) (λy=>y.1<=rs.length/\∀ps∈rs.take y.1,yP g ps) (0,.slice none 0 0) ⟨bQ _,λps h=>by cases h⟩ (hk:=we) (body:=?_);rintro⟨k,v4⟩ ⟨hk,hall⟩;dsimp only at hk hall⊢;have hkl:(dU g (rs.take k)).length=k:=by unfold dU;rw[cz,ig];omega
 refine go ?_;refine az rfl (λh3=>?_) (λh3=>?_)
 ·refine go ?_;refine bq (ak ae) (xs:=rs) (next:=λ_ _ ps (vp:Value) hps=>?_);have hpm:=aP hps;have hpl:=hrs ps hpm;have htk:=bU hps;refine aT (E:=ae) (v:=vp) (xs:=ps) vm λa4 c4 e4=>?_;subst e4;refine go ?_;refine yH jq (λbm=>?_);refine go ?_;refine gH ae ?_;refine aW (λy:Nat×Value=>ps.length - y.1) (λy=>[(31,.int .i64 (y.1:Int)),(8,y.2)]) (λy=>[ap ae y.2 (eT g (ps.take y.1)),gI jq bm (yO (eT g (ps.take y.1)))]) (λ_=>[]) (λy=>y.1<=ps.length/\(∀p∈ps.take y.1,p∈g.cells)/\(eT g (ps.take y.1)).Nodup) (0,.slice none 0 0) ⟨bQ _,(λp h=>by cases h),wy⟩ (hk:=we) (body:=?_);rintro⟨j,v8⟩ ⟨hj,hmem,hnd⟩;dsimp only at hj hmem hnd⊢;have hjl:(eT g (ps.take j)).length=j:=by unfold eT;rw[cz,ig];omega
  have hj2:j<=256:=by have:=IJ hmem hnd;rw[ig]at this;omega
  refine go ?_;refine az rfl (λh4=>?_) (λh4=>?_)
  ·refine go ?_;intro _ _ x hx;have htx:=bU hx;refine go ?_;refine ax (UK (xs:=g.cells) (z:=x) vj (lM.imp λh=>Int.le_of_lt h)) (next:=λy hy=>?_);have hym:=hy.mem lM;obtain⟨c,ok⟩:=y;dsimp only at hym⊢;cases ok with
   |false=>
    refine go ?_;refine mg (c:=(130:Int)=0) (f:=ai (ak ae) (.slice none 0 0) (dU g rs)) vj ?_;exact ah ⟨.slice none 0 0,130⟩ (hv:=rfl) (hp:=⟨(λh=>by cases h),λh=>by
     have:=hym.2 ((h.2.all ps hpm).mem x (aP hx));cases this⟩)
   |true=>
    have hxm:=hym.1 rfl;have Cv:g.cells[c]? =some x:=hy.2.2.2.1 rfl;have hpos:=II lM Cv;have hr1:eT g (ps.take (j+1))=eT g (ps.take j)++[(c:Int)]:=by unfold eT;rw[htx,fD,r9,hpos]
    refine go ?_;refine Es (aX:=jq) (b:=bm) (aj:=yO (eT g (ps.take j))) yT (c:Int) ?_;rw[ac6];refine go ?_;refine az rfl (λh5=>?_) (λh5=>?_)
    ·exact ee
    ·refine go ?_;refine wY (aX:=jq) (b:=bm) (v:=.bool true) (aj:=yO (eT g (ps.take j))) yT (c:Int) ?_;rw[<- Ty,<- hr1];exact da
  exact cG
 have hke:k=rs.length:=vj
 subst hke;rw[bJ]at hall⊢;refine bi (fQ (E:=ak ae) (v:=v4) (xs:=dU g rs)) (h:=?_);refine go ?_;refine lu (c:=(0:Int)=0) (f:=ai (ak ae) v4 (dU g rs)) vm ?_;exact ah ⟨v4,0⟩ (hv:=rfl) (hp:=⟨λ_=>⟨hg,vj,hall⟩,λ_=>rfl⟩)
