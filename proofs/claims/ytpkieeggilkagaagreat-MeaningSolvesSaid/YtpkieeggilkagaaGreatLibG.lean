/-
  Lines of a grid: cells gathered by a number.
-/
import Derived.Test.YtpkieeggilkagaaGreatLibF
import Derived.Test.YtpkieeggilkagaaGreatPlainB
import Derived.Test.YtpkieeggilkagaaGreatIdealO
set_option linter.unusedSimpArgs false
set_option linter.unusedVariables false
set_option maxRecDepth 10000
set_option maxHeartbeats 4000000
namespace Go.Proofs.YtpkieeggilkagaaGreat
open Go.Ideal Kd
abbrev zDR(n:Int):Value:=.int .i64 n
theorem zEP:zKl Tryz.prog 3 zDR:=zPm (by kernel_rfl)
theorem zPd{bm:Nat}{kvs:List (Int×Value)}:FnC Tryz.prog (.func 272) [.map (some bm)] [] [] [zOF zDR bm kvs] (fun b:Nat=>.func (.func 290) #[] #[ptr' b]) (fun _=>[]) (fun b=>[fRaw b 0 [.map (some bm)],zOF zDR bm kvs]) (fun _=>True):=by
 refine zE _ (isC 272) fun B w0=>?_;refine go ?_;intro b1;refine go ?_;refine zK (zN (b:=b1)) (h:=?_);exact q_fin b1 (hv:=rfl) (hp:=trivial)
theorem zOC{b bm:Nat}{kvs:List (Int×Value)}:zHT Tryz.prog (fun x:Int=>[zDR x]) (.func 290) [] [ptr' b] [fRaw b 0 [.map (some bm)],zOF zDR bm kvs] (fun xs=>xs.Perm (kvs.map (·.1))):=by
 intro S inv ok step s0 yfn y1 y2 F' h0 hok hy;rw[List.cons_append,List.cons_append,List.nil_append];refine zE _ (isC 290) fun B w0=>?_;refine go ?_;refine zKV (b:=bm) (kvs:=kvs) (toV:=zDR) (next:=fun r=>?_);refine go ?_;refine zH (fun y:List (Int×Value)×S=>kvs.length - y.1.length) (fun y=>[]) (fun y=>itA zDR r bm kvs y.1::inv y.2) (fun _=>[]) (fun y=>ok (y.1.map (·.1)) y.2∧(∃rest,(y.1++rest).Perm kvs)∧∀rest,zAf step s0 (y.1.map (·.1)++rest)=zAf step y.2 rest) ([],s0) ⟨h0,⟨kvs,.refl _⟩,fun _=>rfl⟩ (body:=?_);rintro⟨vis,s⟩ ⟨hos,_,hrun⟩;dsimp only at hos hrun⊢;refine go ?_;refine zTL (b:=bm) (kvs:=kvs) (vis:=vis) (toV:=zDR) (more:=fun p rem hp=>?_) (done:=fun hp=>?_) zPW
 ·have hX:(vis.map (·.1)++p.1::rem.map (·.1)).Perm (kvs.map (·.1)):=by
   have:=hp.map (·.1);rw[List.map_append,List.map_cons]at this;exact this
  have hlen:=hp.length_eq;rw[List.length_append,List.length_cons]at hlen;have hyy:=hy _ s _ _ hos hX;refine go ?_;refine zRl (toV:=zDR) (kvs:=kvs) (vis:=vis) (p:=p) ?_;refine go ?_;refine zA hyy (next:=fun _ _=>?_);cases hst:(step s p.1).2 with
  |true=>
   have hs1:step s p.1=((step s p.1).1,true):=Prod.ext rfl hst;refine go ?_;refine zB (vis++[p],(step s p.1).1) (by show kvs.length - (vis++[p]).length<_;rw[List.length_append,List.length_singleton];omega) ⟨?_,⟨rem,by show((vis++[p])++rem).Perm kvs;rw[List.append_assoc];exact hp⟩,fun rest=>?_⟩
   ·show ok ((vis++[p]).map (·.1)) _;rw[List.map_append];exact hok _ s _ _ hos hX hst
   ·show zAf step s0 ((vis++[p]).map (·.1)++rest)=_;rw[List.map_append,List.append_assoc,hrun];show zAf step s (p.1::rest)=_;rw[zAf,hs1]
  |false=>
   have hs1:step s p.1=((step s p.1).1,false):=Prod.ext rfl hst;have hr:=hrun (p.1::rem.map (·.1));rw[zAf,hs1]at hr;dsimp only at hr;refine go ?_;exact q_fin (vis.map (·.1)++p.1::rem.map (·.1)) (hv:=rfl) (hp:=hX) (hk:=by rw[hr];exact SelL.self _ _)
 ·refine go ?_;have hr:=hrun [];rw[List.append_nil]at hr;exact q_fin (vis.map (·.1)) (hv:=rfl) (hp:=hp.map (·.1)) (hk:=by rw[hr];apply SelL.there;exact SelL.all _)
structure zUL where
 v:Value
 xs:List Int
theorem zKj{fn:Fn}{first captured:List Value}{F1:List zJ}{X:List Int→Prop}(hit:zHT Tryz.prog (fun x:Int=>[zDR x]) fn first captured F1 X)(hl:∀xs,X xs→xs.length≤1000000):
 FnC Tryz.prog (.func 130) [.slice none 0 0,.func fn ⟨first⟩ ⟨captured⟩] [] [] F1 (fun y:zUL=>y.v) (fun y=>[ap intE y.v y.xs]) (fun _=>[]) (fun y=>X y.xs):=by
 refine zFV zGb f_appSeq fun B w0=>?_;refine go ?_;intro b2;refine zAd intE ?_;refine zBb (fun v:Value=>[pt b2 (.cells [v]),ap intE v ([]:List Int)]) (.slice none 0 0) (h:=?_);refine zJV (Z:=Nat) (fun(ys:List Int) (x:Int)=>(ys++[x],Out.normal)) (fun ys=>[zU1 intE b2 ys]) (fun vs ys=>ys=vs) [] _ (fun _ _=>[]) rfl (fun vs s x rest hs hX _=>by rw[hs]) hit (by intro s x lo o B w0;refine go ?_;have z0:Nat:=0;exact asgZ_end z0 rfl) ?_ ?_ (fun _ _=>trivial)
 ·intro vs s x rest z lo L B w0 hs hx;subst hs;dsimp only[List.cons_append,List.nil_append];have hlen:s.length≤1000000:=by have:=hl _ hx;rw[List.length_append,List.length_cons]at this;omega
  refine zEM (h:=fun v=>?_);refine go ?_;intro b10;refine zAv (xs:=s) intE x () (by omega) (next:=fun ad=>?_);refine go ?_;refine zBb (fun v:Value=>[pt b2 (.cells [v]),ap intE v (s++[x])]) _ (h:=?_);exact zBp () rfl trivial trivial
 ·intro r xs hX;have hrun:∀(ys zs:List Int),zBu (fun(ys:List Int) (x:Int)=>(ys++[x],Out.normal)) ys zs=(ys++zs,.normal):=by
   intro ys zs;induction zs generalizing ys with
   |nil=>simp[zBu]
   |cons z zs ih=>rw[zBu];simp only[ih];simp
  rw[hrun,List.nil_append];dsimp only[List.cons_append,List.nil_append];refine zEM (h:=fun v=>?_);refine go ?_;exact zEZ ⟨v,xs⟩ (hv:=rfl) (hp:=hX)
theorem zJC{fn:Fn}{first captured:List Value}{F1:List zJ}{X:List Int→Prop}(hit:zHT Tryz.prog (fun x:Int=>[zDR x]) fn first captured F1 X)(hl:∀xs,X xs→xs.length≤1000000):
 FnC Tryz.prog (.func 74) [.func fn ⟨first⟩ ⟨captured⟩] [] [] F1 (fun y:zUL=>y.v) (fun y=>[ap intE y.v y.xs]) (fun _=>[]) (fun y=>X y.xs):=by
 refine zE zFX f_collect fun B w0=>?_;refine go ?_;refine zA (zKj hit hl) (next:=fun y hy=>?_);dsimp only[List.cons_append,List.nil_append];refine go ?_;exact q_fin y (hv:=rfl) (hp:=hy)
theorem zH4{fn:Fn}{first captured:List Value}{F1:List zJ}{X:List Int→Prop}(hit:zHT Tryz.prog (fun x:Int=>[zDR x]) fn first captured F1 X)(hl:∀xs,X xs→xs.length≤1000000):
 FnC Tryz.prog (.func 260) [.func fn ⟨first⟩ ⟨captured⟩] [] [] F1 (fun y:zUL=>y.v) (fun y=>[ap intE y.v (sortZ y.xs)]) (fun _=>[]) (fun y=>X y.xs):=by
 refine zE _ (isC 260) fun B w0=>?_;refine go ?_;refine zA (zJC hit hl) (next:=fun y hy=>?_);obtain⟨v,xs⟩:=y;dsimp only[List.cons_append,List.nil_append]at hy⊢;have hlen:=hl _ hy;refine zDf (E:=intE) (v:=v) (xs:=xs) fun a hv=>?_;subst hv;refine go ?_;refine zA (zHG (a:=a) (zs:=xs) rfl (by omega)) (next:=fun _ _=>?_);refine go ?_;exact q_fin ⟨.slice a xs.length xs.length,xs⟩ (hv:=rfl) (hp:=hy)
theorem zDb{g:Grd}{vh vc:Value}{fn:Fn}{first captured:List Value}{F1:List zJ}{kf:Int×Int→Int×Bool}(hg:zAB g)
 (hk:∀p∈spotsL g,FnC Tryz.prog fn (first++[zFh p.2]) captured [] F1 (fun _:Unit=>.tuple ⟨[.int .i64 (kf p.2).1,.bool (kf p.2).2]⟩) (fun _=>[]) (fun _=>[]) (fun _=>True)):
 FnC Tryz.prog (.func 250) [.agg ⟨zH2 g vh vc⟩,.func fn ⟨first⟩ ⟨captured⟩] [] [] (fSl intE vh g.holes::fSl intE vc g.cells::F1) (fun v:Value=>v) (fun v=>[ap (slE intE) v (linesOf g kf)]) (fun _=>[]) (fun _=>True):=by
 have hgl:=hg.len;have hsl:=zf g;refine zFV _ (isC 250) fun B w0=>?_;refine go ?_;intro b2 b3;refine go ?_;refine zCU zDR (fun bm=>?_);refine go ?_;intro b5;refine zTW intE (b:=bm) (toV:=zDR) ?_;refine go ?_;refine zA (zHJ (g:=g) (vh:=vh) (vc:=vc)) (next:=fun bs _=>?_);refine go ?_;refine zJV (Z:=Nat) (fun(m:List (Int×List Int)) (x:Int×(Int×Int))=>(zB4 kf m x,.normal)) (fun m=>[mlA zDR intE bm m,pt b5 (.cells [.map (some bm)]),pt b3 (.cells [.func fn ⟨first⟩ ⟨captured⟩])]) (fun vs m=>m=linM kf vs) [] _ (fun x b8=>[pt b8 (.cells [.int .i64 x.2.1,.int .i64 x.2.2])]) rfl (fun vs s x rest hs _ _=>by rw[hs,zB7]) (zE7 (b1:=bs) (vh:=vh) (vc:=vc) hg) (by intro s x lo o B w0;refine go ?_;intro b8;refine go ?_;exact asgZ_end b8 rfl) ?_ ?_ (fun _ _=>trivial)
 ·intro vs s x rest b8 lo L B w0 hs hX;dsimp only[List.cons_append,List.nil_append];obtain⟨hc,hvl,hxm⟩:=zDP hX;have hkx:=hk x hxm;have hin:=zHE kf vs.length vs rfl;rw[← hs]at hin;have hst:zB4 kf s x=cond (kf x.2).2 (upd (kf x.2).1 ((lkp (kf x.2).1 s).getD []++[x.1]) s) s:=rfl;rw[hst];obtain⟨c,s1,s2⟩:=x;dsimp only at hc hkx hst⊢;subst hc;rcases hq:kf (s1,s2)with⟨kn,kb⟩
  rw[hq]at hkx;dsimp only at hkx⊢;refine go ?_;refine zA hkx (next:=fun _ _=>?_);cases kb with
  |false=>
   dsimp only[cond];refine go ?_;exact zBp () rfl trivial trivial
  |true=>
   dsimp only[cond];have hln:=hin.2 kn;refine go ?_;refine zUA (toV:=zDR) (E:=intE) (b:=bm) (m:=s) kn (h:=fun kvs v hkeys hv=>?_);refine zH0 (b:=bm) (kvs:=kvs) zEP kn ?_;rw[hv];refine go ?_;intro b30;refine go ?_;refine zQb (xs:=(lkp kn s).getD []) intE (vs.length:Int) () (by omega) (next:=fun ad=>?_);refine go ?_;refine zGu (b:=bm) (v:=.slice ad (((lkp kn s).getD []).length+1) (((lkp kn s).getD []).length+1)) (kvs:=kvs) zEP kn ?_;refine zUP (E:=intE) (v:=.slice ad (((lkp kn s).getD []).length+1) (((lkp kn s).getD []).length+1)) (xs:=(lkp kn s).getD []++[(vs.length:Int)]) kn hkeys ?_;refine go ?_;exact zBp () rfl trivial trivial
 ·intro r xs hX;subst hX;rw[zDV (zB4 kf)];dsimp only[List.cons_append,List.nil_append];rw[show(spotsL g).foldl (zB4 kf) []=linM kf (spotsL g)from rfl];have hin:=zHE kf _ (spotsL g) rfl;rw[hsl]at hin;have hL:linesOf g kf=(sortZ ((linM kf (spotsL g)).map (·.1))).map fun n=>(lkp n (linM kf (spotsL g))).getD []:=rfl;generalize hm:linM kf (spotsL g)=m at hin hL⊢;refine zTr (toV:=zDR) (E:=intE) (b:=bm) (m:=m) (fun kvs hkeys=>?_);have hkl:kvs.length=m.length:=by have:=congrArg List.length hkeys;simpa using this
  refine zK (zD8 (toV:=zDR) (b:=bm) (kvs:=kvs)) (h:=?_);refine zK (zRr (E:=intE) (kvs:=kvs) (m:=m) hkeys) (h:=?_);refine zK (zN (b:=b5)) (h:=?_);refine go ?_;refine zA (zPd (bm:=bm) (kvs:=kvs)) (next:=fun bk _=>?_);refine go ?_;refine zA (zH4 (zOC (b:=bk) (bm:=bm) (kvs:=kvs)) (fun xs h=>by have:=h.length_eq;rw[List.length_map]at this;omega)) (next:=fun y hy=>?_);obtain⟨vk,ks⟩:=y;dsimp only[List.cons_append,List.nil_append]at hy⊢;have hks:sortZ ks=sortZ (m.map (·.1)):=zKq (by rw[← hkeys];exact hy);rw[hks];have hkn:(sortZ (m.map (·.1))).length=m.length:=by rw[zBM,List.length_map]
  have hmem:∀n∈sortZ (m.map (·.1)),n∈m.map (·.1):=fun n h=>zDM.1 h;generalize hK:sortZ (m.map (·.1))=ns at hkn hL hmem⊢;refine zK (z5 (E:=intE) (v:=vk) (xs:=ns)) (h:=?_);refine zR (E:=intE) (v:=vk) (xs:=ns) (by simp) fun a c e=>?_;subst e;refine go ?_;refine zAd (slE intE) ?_;refine zH (fun y:Nat×Value=>ns.length - y.1) (fun y=>[(36,.int .i64 (y.1:Int)),(4,y.2)]) (fun y=>[ap (slE intE) y.2 ((ns.take y.1).map fun n=>(lkp n m).getD [])]) (fun _=>[]) (fun y=>y.1≤ns.length) (0,.slice none 0 0) (Nat.zero_le _) (hk:=by repeat (first|exact SelL.nil|(apply SelL.cons;(focus (repeat (first|exact Sel.here|apply Sel.there)))))) (body:=?_);rintro⟨k,v4⟩ hk2;dsimp only at hk2⊢;refine go ?_;refine if_d rfl (fun h1=>?_) (fun h1=>?_)
  ·refine go ?_;intro _ _ n hn;obtain⟨v,hv⟩:=zFi (a:=n) (l:=kvs) (by rw[hkeys];exact hmem n (List.mem_of_getElem? hn));obtain⟨xs,hxs⟩:=zFi (a:=n) (l:=m) (hmem n (List.mem_of_getElem? hn));have hlv:lkV false (.slice none 0 0) n kvs=v:=by unfold lkV;rw[hv];rfl
   have htk:(ns.take (k+1)).map (fun n=>(lkp n m).getD [])=(ns.take k).map (fun n=>(lkp n m).getD [])++[xs]:=by
    rw[zP hn,List.map_append,List.map_singleton,hxs];rfl
   have hxl:((ns.take k).map (fun n=>(lkp n m).getD [])).length=k:=by rw[List.length_map,List.length_take];omega
   refine zX (fSl intE v xs) (fun w hw=>hw (fML intE kvs m) (by simp) n v xs hv hxs) ?_;refine zR (E:=intE) (v:=v) (xs:=xs) (by simp) fun a2 c2 e2=>?_;subst e2;refine go ?_;refine zMg (toV:=zDR) (b:=bm) (kvs:=kvs) zEP n ?_;rw[hlv];refine go ?_;intro b44;refine go ?_;refine zAv (xs:=(ns.take k).map fun n=>(lkp n m).getD []) (slE intE) xs (.slice a2 xs.length c2) (by rw[hxl];omega) (next:=fun ad=>?_);rw[← htk];refine go ?_;exact zB (k+1,.slice ad (((ns.take k).map fun n=>(lkp n m).getD []).length+1) (((ns.take k).map fun n=>(lkp n m).getD []).length+1)) (by show ns.length - (k+1)<ns.length - k;omega) (by show k+1≤_;omega)
  have hke:k=ns.length:=by omega
  subst hke;rw[List.take_length,← hL];refine go ?_;exact zEZ v4 (hv:=rfl) (hp:=trivial)
end Go.Proofs.YtpkieeggilkagaaGreat
namespace Go.Proofs.YtpkieeggilkagaaGreat
open Go.Ideal Kd
abbrev zTA(fn:Fn)(first captured:List Value)(F1:List zJ)(g:Grd)(kf:Int×Int→Int×Bool):Prop:=
 ∀p∈spotsL g,FnC Tryz.prog fn (first++[zFh p.2]) captured [] F1 (fun _:Unit=>.tuple ⟨[.int .i64 (kf p.2).1,.bool (kf p.2).2]⟩) (fun _=>[]) (fun _=>[]) (fun _=>True)
theorem zRw{g:Grd}:zTA (.func 251) [] [] [] g (fun s=>(s.2,true)):=fun p hp=>by
 refine zE _ (isC 251) fun B w0=>?_;refine go ?_;intro b1;refine go ?_;exact q_fin () (hv:=rfl) (hp:=trivial)
theorem zRZ{g:Grd}:zTA (.func 252) [] [] [] g (fun s=>(s.1,true)):=fun p hp=>by
 refine zE _ (isC 252) fun B w0=>?_;refine go ?_;intro b1;refine go ?_;exact q_fin () (hv:=rfl) (hp:=trivial)
theorem zSS{g:Grd}(hg:zAB g):zTA (.func 273) [] [] [] g (fun s=>(s.1+s.2,true)):=fun p hp=>by
 have hb:=zCD hg p hp;obtain⟨c,s1,s2⟩:=p;dsimp only at hb⊢;refine zE _ (isC 273) fun B w0=>?_;refine go ?_;intro b1;refine go ?_;exact q_fin () (hv:=rfl) (hp:=trivial)
theorem zSe{g:Grd}(hg:zAB g):zTA (.func 274) [] [] [] g (fun s=>(0,decide (s.1=s.2))):=fun p hp=>by
 have hb:=zCD hg p hp;refine zE _ (isC 274) fun B w0=>?_;refine go ?_;intro b1;refine go ?_;exact q_fin () (hv:=rfl) (hp:=trivial)
theorem zSR{g:Grd}{vh vc:Value}{b:Nat}(hg:zAB g):zTA (.func 275) [] [ptr' b] [fRaw b 0 (zH2 g vh vc)] g (fun s=>(0,decide (s.1+s.2=g.w - 1))):=fun p hp=>by
 have hb:=zCD hg p hp;obtain⟨c,s1,s2⟩:=p;dsimp only at hb⊢;have hw:=hg.make.wi;refine zE _ (isC 275) fun B w0=>?_;refine go ?_;intro b1;refine go ?_;exact q_fin () (hv:=rfl) (hp:=trivial)
theorem zPZ{g:Grd}{vh vc:Value}(hg:zAB g):
 FnC Tryz.prog (.func 253) [.agg ⟨zH2 g vh vc⟩] [] [] (zLA g vh vc) (fun v:Value=>v) (fun v=>[ap (slE intE) v (zBK g)]) (fun _=>[]) (fun _=>True):=by
 refine zE _ (isC 253) fun B w0=>?_;refine go ?_;intro b1;refine zK (zN (b:=b1)) (h:=?_);refine go ?_;refine if_d rfl (fun h1=>?_) (fun h1=>?_)
 ·refine go ?_;refine zA (zDb (kf:=fun s=>(s.1+s.2,true)) (vh:=vh) (vc:=vc) hg (zSS hg)) (next:=fun v _=>?_);refine go ?_;exact q_fin v (hv:=rfl) (hp:=trivial) (hk:=by unfold zBK;rw[if_pos h1];exact SelL.all _)
 refine go ?_;refine if_d rfl (fun h2=>?_) (fun h2=>?_)
 ·refine go ?_;refine zAd (slE intE) ?_;exact q_fin (.slice none 0 0) (hv:=rfl) (hp:=trivial) (hk:=by unfold zBK;rw[if_neg h1,if_neg h2];exact SelL.all _)
 have h2:g.w=g.h:=Decidable.not_not.1 h2;refine go ?_;refine zA (zDb (kf:=fun s=>(0,decide (s.1=s.2))) (vh:=vh) (vc:=vc) hg (zSe hg)) (next:=fun va _=>?_);refine go ?_;refine zA (zDb (kf:=fun s=>(0,decide (s.1+s.2=g.w - 1))) (vh:=vh) (vc:=vc) hg (zSR (vh:=vh) (vc:=vc) (b:=b1) hg)) (next:=fun vb _=>?_);have hA:=zB0 hg (fun s=>(0,decide (s.1=s.2)));have hB:=zB0 hg (fun s=>(0,decide (s.1+s.2=g.w - 1)));have hD:zBK g=dgFold (linesOf g (fun s=>(0,decide (s.1=s.2)))) (linesOf g (fun s=>(0,decide (s.1+s.2=g.w - 1)))):=by unfold zBK;rw[if_neg h1,if_pos h2]
 generalize linesOf g (fun s=>(0,decide (s.1=s.2)))=la at hA hD⊢;generalize linesOf g (fun s=>(0,decide (s.1+s.2=g.w - 1)))=lb at hB hD⊢;have hF:=zDp hA.2 hB.2;refine zK (z5 (E:=slE intE) (v:=vb) (xs:=lb)) (h:=?_);refine zR (E:=slE intE) (v:=vb) (xs:=lb) (by simp) fun a c e=>?_;subst e;refine go ?_;refine zH (fun y:Nat×Value=>lb.length - y.1) (fun y=>[(22,.int .i64 (y.1:Int)),(3,y.2)]) (fun y=>[ap (slE intE) y.2 (dgFold la (lb.take y.1))]) (fun _=>[]) (fun y=>y.1≤lb.length) (0,va) (Nat.zero_le _) (hk:=by repeat (first|exact SelL.nil|(apply SelL.cons;(focus (repeat (first|exact Sel.here|apply Sel.there)))))) (body:=?_);rintro⟨k,v3⟩ hk2;dsimp only at hk2⊢;have hFk:=hF k;refine go ?_;refine if_d rfl (fun h3=>?_) (fun h3=>?_)
 ·refine go ?_;refine zV (slE intE) (xs:=lb) (next:=fun _ _ ln (vl:Value) hl=>?_);have hs:=zFD (a:=la) hl;have hll:=hB.2 ln (List.mem_of_getElem? hl);generalize dgFold la (lb.take k)=acc at hFk hs⊢;refine zDf (E:=slE intE) (v:=v3) (xs:=acc) fun a3 e3=>?_;subst e3;refine zR (E:=intE) (v:=vl) (xs:=ln) (by simp) fun a4 c4 e4=>?_;subst e4;cases acc with
  |nil=>
   have hs2:dgFold la (lb.take (k+1))=[]++[ln]:=hs;refine go ?_;intro b39;refine go ?_;refine zAv (xs:=([]:List (List Int))) (slE intE) ln (.slice a4 ln.length c4) (by simp) (next:=fun ad=>?_);rw[← hs2];refine go ?_;exact zB (k+1,.slice ad (([]:List (List Int)).length+1) (([]:List (List Int)).length+1)) (by show lb.length - (k+1)<lb.length - k;omega) (by show k+1≤_;omega)
  |cons a0 acc=>
   have ha0:=hFk.2 a0 (List.mem_cons_self ..);refine go ?_;refine zLu intE 0 a0 rfl (next:=fun _ _ u=>?_);refine go ?_;refine zA (zB2 (xs:=a0) (ys:=ln) (by omega)) (next:=fun _ _=>?_);by_cases h4:a0=ln
   rotate_left
   ·rw[decide_eq_false h4];have hs2:dgFold la (lb.take (k+1))=(a0::acc)++[ln]:=by rw[hs];unfold zGA;rw[if_neg (show¬((a0::acc).head? =some ln)from fun e=>h4 (Option.some.inj e))]
    refine go ?_;intro b39;refine go ?_;refine zAv (xs:=a0::acc) (slE intE) ln (.slice a4 ln.length c4) (by have:=hFk.1;omega) (next:=fun ad=>?_);rw[← hs2];refine go ?_;exact zB (k+1,.slice ad ((a0::acc).length+1) ((a0::acc).length+1)) (by show lb.length - (k+1)<lb.length - k;omega) (by show k+1≤_;omega)
   ·rw[decide_eq_true h4];have hs2:dgFold la (lb.take (k+1))=a0::acc:=by rw[hs];unfold zGA;rw[if_pos (by rw[h4];rfl)]
    rw[show ap (slE intE) (Value.slice a3 (a0::acc).length (a0::acc).length) (a0::acc)=ap (slE intE) (Value.slice a3 (a0::acc).length (a0::acc).length) (dgFold la (lb.take (k+1)))from congrArg _ hs2.symm];refine go ?_;exact zB (k+1,.slice a3 (a0::acc).length (a0::acc).length) (by show lb.length - (k+1)<lb.length - k;omega) (by show k+1≤_;omega)
 have hke:k=lb.length:=by omega
 subst hke;rw[List.take_length,← hD];refine go ?_;exact q_fin v3 (hv:=rfl) (hp:=trivial)
end Go.Proofs.YtpkieeggilkagaaGreat
namespace Go.Proofs.YtpkieeggilkagaaGreat
open Go.Ideal Kd
theorem zLO{c:Nat}:FnC Tryz.prog (.func 245) [.slice none 0 c] [] [] [] (fun _:Unit=>.slice none 0 0) (fun _=>[]) (fun _=>[]) (fun _=>True):=by
 refine zE zM7 f_cloI fun B w0=>?_;refine go ?_;refine(d_p rfl rfl (zJi (e:=3) (by kernel_rfl) rfl)).h ?_;refine go ?_;exact q_fin () (hv:=rfl) (hp:=trivial)
theorem zRX{v:Value}{xs:List Int}(hl:xs.length≤4096):FnC Tryz.prog (.func 245) [v] [] [] [fSl intE v xs,fNZ v xs] (fun v':Value=>v') (fun v'=>[ap intE v' xs]) (fun _=>[]) (fun _=>True):=by
 intro B w s;by_cases hx:xs=[]
 ·have hv:v=.slice none 0 0:=s.facts (fNZ v xs) (List.mem_cons_of_mem _ (List.mem_cons_self ..)) hx;subst hx hv;refine .conseq _ (zLO (c:=0) B w ⟨s.agree,s.le,s.zold,s.own,fun f hf=>(by cases hf)⟩) ?_;rintro r pm h' ⟨hp,w',y,e1,st,e2,_⟩;obtain⟨S,q1,q2,q3⟩:=st.own;exact⟨hp,w',.slice none 0 0,e1,⟨st.agree,st.le,st.zold,⟨S,⟨[],S,.inl ⟨rfl,rfl,rfl⟩,q1,rfl⟩,q2,q3⟩,st.facts⟩,e2,trivial⟩
 ·obtain⟨xys,h1,h2⟩:=zJe (s.facts (fSl intE v xs) (List.mem_cons_self ..));have hlen:xys.length=xs.length:=by rw[← h1,List.length_map]
  refine .conseq _ (zNO (v:=v) (xys:=xys) (by omega) B w ⟨s.agree,s.le,s.zold,s.own,fun f hf=>by rw[List.mem_singleton.1 hf];exact h2⟩) ?_;rintro r pm h' ⟨hp,w',y,e1,st,e2,_⟩;subst h1;exact⟨hp,w',y,e1,st.arAp (by rw[hlen];exact List.length_pos_iff.2 hx) (fun p hp f hf=>by cases hf),e2,trivial⟩
abbrev lsF(g:Grd)(k:Int)(y:LsY):List zJ:=[fIf (y.e=0) (fSl (slE intE) y.v (famOf g k))]
theorem zSm{g:Grd}{vh vc:Value}{k:Int}(hS:zP7 g):
 FnC Tryz.prog (.func 186) [.agg ⟨zH2 g vh vc⟩,.int .i64 k] [] [] (zLA g vh vc) lsV (fun _=>[]) (fun y=>lsF g k y) (fun y=>y.e=0↔zAB g∧0≤k∧k≤7):=by
 refine zE _ (isC 186) fun B w0=>?_;refine go ?_;intro b2;refine zK (zN (b:=b2)) (h:=?_);refine go ?_;refine zA (zMH (g:=g) (vh:=vh) (vc:=vc) hS) (next:=fun y hy=>?_);obtain⟨vn,e⟩:=y;dsimp only at hy⊢;refine go ?_;refine if_d rfl (fun h1=>?_) (fun h1=>?_)
 ·refine go ?_;refine zGi (c:=e=0) (f:=fSl (slE intE) (.slice none 0 0) (famOf g k)) h1 ?_;exact q_fin ⟨.slice none 0 0,e⟩ (hv:=rfl) (hp:=⟨(fun h=>absurd h h1),fun h=>absurd (hy.2 h.1) h1⟩)
 have he:e=0:=Decidable.not_not.1 h1;subst he;have hg:=hy.1 rfl;have hgl:=hg.len;have hnl:=zAZ g;have hnm:=zFZ (g:=g);refine zX (fSl (slZ intE) vn (nbsOf g)) (fun w hw=>hw (fIf ((0:Int)=0) (fSl (slZ intE) vn (nbsOf g))) (by simp) rfl) ?_;refine zX (fSl (slE intE) vn (nbsOf g)) (fun w hw=>zHV (hw (fSl (slZ intE) vn (nbsOf g)) (by simp))) ?_;refine zR (E:=slE intE) (v:=vn) (xs:=nbsOf g) (by simp) fun an cn en=>?_;subst en;refine go ?_;refine if_d rfl (fun hk=>?_) (fun hk0=>?_)
 ·subst hk;have hf:famOf g 0=zGM g.cells.length:=by simp[famOf]
  refine go ?_;refine zAd (slE intE) ?_;refine zH (fun y:Nat×Value=>g.cells.length - y.1) (fun y=>[(31,.int .i64 (y.1:Int)),(4,y.2)]) (fun y=>[ap (slE intE) y.2 (zGM y.1)]) (fun _=>[]) (fun y=>y.1≤g.cells.length) (0,.slice none 0 0) (Nat.zero_le _) (hk:=by repeat (first|exact SelL.nil|(apply SelL.cons;(focus (repeat (first|exact Sel.here|apply Sel.there)))))) (body:=?_);rintro⟨i,v4⟩ hi;dsimp only at hi⊢;have hil:=zON i;refine go ?_;refine if_d rfl (fun h2=>?_) (fun h2=>?_)
  ·refine go ?_;intro b36 b37;refine zK (A:=pt b36 (.cells [.int .i64 (i:Int)])) (fs:=[fSl intE (.slice (some ⟨b36,0,some 0⟩) 1 1) [(i:Int)]]) (zCm (b:=b36) (f:=0) (c:=1) (xs:=[(i:Int)])) (h:=?_);refine go ?_;refine zAv (xs:=zGM i) (slE intE) [(i:Int)] (.slice (some ⟨b36,0,some 0⟩) 1 1) (by omega) (next:=fun ad=>?_);rw[← zNi];refine go ?_;exact zB (i+1,.slice ad ((zGM i).length+1) ((zGM i).length+1)) (by show g.cells.length - (i+1)<g.cells.length - i;omega) (by show i+1≤_;omega)
  have hie:i=g.cells.length:=by omega
  subst hie;refine zK (z5 (E:=slE intE) (v:=v4) (xs:=zGM g.cells.length)) (h:=?_);refine go ?_;refine zFd (c:=(0:Int)=0) (f:=fSl (slE intE) v4 (famOf g 0)) (by rw[hf];simp) ?_;exact q_fin ⟨v4,0⟩ (hv:=rfl) (hp:=⟨fun _=>⟨hg,by omega,by omega⟩,fun _=>rfl⟩)
 refine go ?_;refine if_d rfl (fun hk=>?_) (fun hk1=>?_)
 ·subst hk;have hf:famOf g 1=linesOf g (fun s=>(s.2,true)):=by simp[famOf]
  refine go ?_;refine zA (zDb (kf:=fun s=>(s.2,true)) (vh:=vh) (vc:=vc) hg zRw) (next:=fun v4 _=>?_);refine zK (z5 (E:=slE intE) (v:=v4) (xs:=linesOf g (fun s=>(s.2,true)))) (h:=?_);refine go ?_;refine zFd (c:=(0:Int)=0) (f:=fSl (slE intE) v4 (famOf g 1)) (by rw[hf];simp) ?_;exact q_fin ⟨v4,0⟩ (hv:=rfl) (hp:=⟨fun _=>⟨hg,by omega,by omega⟩,fun _=>rfl⟩)
 refine go ?_;refine if_d rfl (fun hk=>?_) (fun hk2=>?_)
 ·subst hk;have hf:famOf g 2=linesOf g (fun s=>(s.1,true)):=by simp[famOf]
  refine go ?_;refine zA (zDb (kf:=fun s=>(s.1,true)) (vh:=vh) (vc:=vc) hg zRZ) (next:=fun v4 _=>?_);refine zK (z5 (E:=slE intE) (v:=v4) (xs:=linesOf g (fun s=>(s.1,true)))) (h:=?_);refine go ?_;refine zFd (c:=(0:Int)=0) (f:=fSl (slE intE) v4 (famOf g 2)) (by rw[hf];simp) ?_;exact q_fin ⟨v4,0⟩ (hv:=rfl) (hp:=⟨fun _=>⟨hg,by omega,by omega⟩,fun _=>rfl⟩)
 refine go ?_;refine if_d rfl (fun hk=>?_) (fun hk3=>?_)
 ·subst hk;have hf:famOf g 3=zBK g:=by simp[famOf]
  refine go ?_;refine zA (zPZ (vh:=vh) (vc:=vc) hg) (next:=fun v4 _=>?_);refine zK (z5 (E:=slE intE) (v:=v4) (xs:=zBK g)) (h:=?_);refine go ?_;refine zFd (c:=(0:Int)=0) (f:=fSl (slE intE) v4 (famOf g 3)) (by rw[hf];simp) ?_;exact q_fin ⟨v4,0⟩ (hv:=rfl) (hp:=⟨fun _=>⟨hg,by omega,by omega⟩,fun _=>rfl⟩)
 refine go ?_;refine if_d rfl (fun hk=>?_) (fun hk4=>?_)
 ·subst hk;have hf:famOf g 4=nbsOf g:=by simp[famOf]
  refine go ?_;refine zFd (c:=(0:Int)=0) (f:=fSl (slE intE) (.slice an (nbsOf g).length cn) (famOf g 4)) (by rw[hf];simp) ?_;exact q_fin ⟨.slice an (nbsOf g).length cn,0⟩ (hv:=rfl) (hp:=⟨fun _=>⟨hg,by omega,by omega⟩,fun _=>rfl⟩)
 refine go ?_;refine if_d rfl (fun hk=>?_) (fun hk5=>?_)
 ·subst hk;have hf:famOf g 5=zIU (nbsOf g):=by simp[famOf]
  generalize nbsOf g=nbs at hnl hnm hf⊢;refine go ?_;refine zAd (slE intE) ?_;refine zH (fun y:Nat×Value=>nbs.length - y.1) (fun y=>[(59,.int .i64 (y.1:Int)),(4,y.2)]) (fun y=>[ap (slE intE) y.2 (zIU (nbs.take y.1))]) (fun _=>[]) (fun y=>y.1≤nbs.length) (0,.slice none 0 0) (Nat.zero_le _) (hk:=by repeat (first|exact SelL.nil|(apply SelL.cons;(focus (repeat (first|exact Sel.here|apply Sel.there)))))) (body:=?_);rintro⟨i,v4⟩ hi;dsimp only at hi⊢;have hil:(zIU (nbs.take i)).length=i:=by rw[zOL,List.length_take];omega
  refine go ?_;refine if_d rfl (fun h2=>?_) (fun h2=>?_)
  ·refine go ?_;refine zV (slZ intE) (xs:=nbs) (next:=fun _ _ ln (vl:Value) hl=>?_);have hll:=hnm ln (List.mem_of_getElem? hl);refine go ?_;refine zA (zRX (v:=vl) (xs:=ln) (by omega)) (next:=fun vc2 _=>?_);refine go ?_;intro b67;refine go ?_;refine zAv (xs:=ln) intE (i:Int) () (by omega) (next:=fun ad=>?_);refine go ?_;have hl1:ln.length+1=(ln++[(i:Int)]).length:=by simp
   rw[hl1];refine zA (zHG (a:=ad) (zs:=ln++[(i:Int)]) rfl (by simp;omega)) (next:=fun _ _=>?_);have hz0:sortZ (ln++[(i:Int)])≠[]:=fun e=>by have:=zBM (ln++[(i:Int)]);rw[e]at this;simp at this
   have hfs:=zLk hl;generalize hzz:sortZ (ln++[(i:Int)])=zs at hfs⊢;refine zK (z5 (E:=intE) (v:=.slice ad (ln++[(i:Int)]).length (ln++[(i:Int)]).length) (xs:=zs)) (h:=?_);refine go ?_;intro b73;refine go ?_;refine zAv (xs:=zIU (nbs.take i)) (slE intE) zs (.slice ad (ln++[(i:Int)]).length (ln++[(i:Int)]).length) (by omega) (next:=fun ad2=>?_);rw[← hfs];refine go ?_;exact zB (i+1,.slice ad2 ((zIU (nbs.take i)).length+1) ((zIU (nbs.take i)).length+1)) (by show nbs.length - (i+1)<nbs.length - i;omega) (by show i+1≤_;omega)
  have hie:i=nbs.length:=by omega
  subst hie;rw[List.take_length];refine zK (z5 (E:=slE intE) (v:=v4) (xs:=zIU nbs)) (h:=?_);refine go ?_;refine zFd (c:=(0:Int)=0) (f:=fSl (slE intE) v4 (famOf g 5)) (by rw[hf];simp) ?_;exact q_fin ⟨v4,0⟩ (hv:=rfl) (hp:=⟨fun _=>⟨hg,by omega,by omega⟩,fun _=>rfl⟩)
 refine go ?_;refine if_d rfl (fun hk=>?_) (fun hk6=>?_)
 ·subst hk;have hf:famOf g 6=fam6 (nbsOf g):=by simp[famOf]
  generalize nbsOf g=nbs at hnl hnm hf⊢;have h6:=zGo hnm;refine go ?_;refine zAd (slE intE) ?_;refine zH (fun y:Nat×Value=>nbs.length - y.1) (fun y=>[(80,.int .i64 (y.1:Int)),(4,y.2)]) (fun y=>[ap (slE intE) y.2 (fam6 (nbs.take y.1))]) (fun _=>[]) (fun y=>y.1≤nbs.length) (0,.slice none 0 0) (Nat.zero_le _) (hk:=by repeat (first|exact SelL.nil|(apply SelL.cons;(focus (repeat (first|exact Sel.here|apply Sel.there)))))) (body:=?_);rintro⟨i,v4⟩ hi;dsimp only at hi⊢;have hil:=h6 i hi;refine go ?_;refine if_d rfl (fun h2=>?_) (fun h2=>?_)
  ·refine go ?_;refine zV (slE intE) (xs:=nbs) (next:=fun _ _ ln (vl:Value) hl=>?_);have hll:=hnm ln (List.mem_of_getElem? hl);have hfs:=zHY hl;refine zR (E:=intE) (v:=vl) (xs:=ln) (by simp) fun a4 c4 e4=>?_;subst e4;refine go ?_;refine zH (fun y:Nat×Value=>ln.length - y.1) (fun y=>[(87,.int .i64 (y.1:Int)),(4,y.2)]) (fun y=>[ap (slE intE) y.2 (fam6 (nbs.take i)++zBh i (ln.take y.1))]) (fun _=>[]) (fun y=>y.1≤ln.length) (0,v4) (Nat.zero_le _) (hk:=by rw[show fam6 (nbs.take i)++zBh i (ln.take 0)=fam6 (nbs.take i)from List.append_nil _];repeat (first|exact SelL.nil|(apply SelL.cons;(focus (repeat (first|exact Sel.here|apply Sel.there)))))) (body:=?_);rintro⟨j,v5⟩ hj;dsimp only at hj⊢;have hpl:=zII i (ln.take j);rw[List.length_take]at hpl;have hal:(fam6 (nbs.take i)++zBh i (ln.take j)).length≤2000:=by rw[List.length_append];omega
   refine go ?_;refine if_d rfl (fun h3=>?_) (fun h3=>?_)
   ·refine go ?_;intro _ _ x hx;have hps:=zK1 (i:=i) hx;refine go ?_;refine if_d rfl (fun h4=>?_) (fun h4=>?_)
    ·have hps2:fam6 (nbs.take i)++zBh i (ln.take (j+1))=(fam6 (nbs.take i)++zBh i (ln.take j))++[[(i:Int),x]]:=by rw[hps,if_pos (by omega),List.append_assoc]
     refine go ?_;intro b97 b98;refine zK (A:=pt b97 (.cells [.int .i64 (i:Int),.int .i64 x])) (fs:=[fSl intE (.slice (some ⟨b97,0,some 0⟩) 2 2) [(i:Int),x]]) (zCm (b:=b97) (f:=0) (c:=2) (xs:=[(i:Int),x])) (h:=?_);refine go ?_;refine zAv (xs:=fam6 (nbs.take i)++zBh i (ln.take j)) (slE intE) [(i:Int),x] (.slice (some ⟨b97,0,some 0⟩) 2 2) (by omega) (next:=fun ad2=>?_);rw[← hps2];refine go ?_;exact zB (j+1,.slice ad2 ((fam6 (nbs.take i)++zBh i (ln.take j)).length+1) ((fam6 (nbs.take i)++zBh i (ln.take j)).length+1)) (by show ln.length - (j+1)<ln.length - j;omega) (by show j+1≤_;omega)
    ·have hps2:fam6 (nbs.take i)++zBh i (ln.take (j+1))=fam6 (nbs.take i)++zBh i (ln.take j):=by rw[hps,if_neg (by omega),List.append_nil]
     rw[← hps2];refine go ?_;exact zB (j+1,v5) (by show ln.length - (j+1)<ln.length - j;omega) (by show j+1≤_;omega)
   have hje:j=ln.length:=by omega
   subst hje;rw[List.take_length,← hfs];refine go ?_;exact zB (i+1,v5) (by show nbs.length - (i+1)<nbs.length - i;omega) (by show i+1≤_;omega)
  have hie:i=nbs.length:=by omega
  subst hie;rw[List.take_length];refine zK (z5 (E:=slE intE) (v:=v4) (xs:=fam6 nbs)) (h:=?_);refine go ?_;refine zFd (c:=(0:Int)=0) (f:=fSl (slE intE) v4 (famOf g 6)) (by rw[hf];simp) ?_;exact q_fin ⟨v4,0⟩ (hv:=rfl) (hp:=⟨fun _=>⟨hg,by omega,by omega⟩,fun _=>rfl⟩)
 refine go ?_;refine if_d rfl (fun hk=>?_) (fun hk7=>?_)
 ·subst hk;have hf:famOf g 7=[upTo' g.cells.length]:=by simp[famOf]
  refine go ?_;refine zAd intE ?_;refine zH (fun y:Nat×Value=>g.cells.length - y.1) (fun y=>[(107,.int .i64 (y.1:Int)),(15,y.2)]) (fun y=>[ap intE y.2 (upTo' y.1)]) (fun _=>[]) (fun y=>y.1≤g.cells.length) (0,.slice none 0 0) (Nat.zero_le _) (hk:=by repeat (first|exact SelL.nil|(apply SelL.cons;(focus (repeat (first|exact Sel.here|apply Sel.there)))))) (body:=?_);rintro⟨i,v15⟩ hi;dsimp only at hi⊢;have hil:=zAr i;refine go ?_;refine if_d rfl (fun h2=>?_) (fun h2=>?_)
  ·refine go ?_;intro b112;refine go ?_;refine zAv (xs:=upTo' i) intE (i:Int) () (by omega) (next:=fun ad=>?_);rw[← zGW];refine go ?_;exact zB (i+1,.slice ad ((upTo' i).length+1) ((upTo' i).length+1)) (by show g.cells.length - (i+1)<g.cells.length - i;omega) (by show i+1≤_;omega)
  have hie:i=g.cells.length:=by omega
  subst hie;refine zK (z5 (E:=intE) (v:=v15) (xs:=upTo' g.cells.length)) (h:=?_);refine zR (E:=intE) (v:=v15) (xs:=upTo' g.cells.length) (by simp) fun a4 c4 e4=>?_;subst e4;refine go ?_;intro b116;refine zK (zN (b:=b116)) (h:=?_);refine zX (fSl (slE intE) (zTc b116 1) [upTo' g.cells.length]) (fun w hw=>zFH (v:=.slice a4 (upTo' g.cells.length).length c4) (hw _ (by simp)) (hw _ (by simp))) ?_;refine go ?_;refine zFd (c:=(0:Int)=0) (f:=fSl (slE intE) (zTc b116 1) (famOf g 7)) (by rw[hf];simp) ?_;exact q_fin ⟨zTc b116 1,0⟩ (hv:=rfl) (hp:=⟨fun _=>⟨hg,by omega,by omega⟩,fun _=>rfl⟩)
 refine go ?_;refine zGi (c:=(1:Int)=0) (f:=fSl (slE intE) (.slice none 0 0) (famOf g k)) (by omega) ?_;exact q_fin ⟨.slice none 0 0,1⟩ (hv:=rfl) (hp:=⟨(fun h=>by cases h),(fun h=>by exfalso;obtain⟨_,q1,q2⟩:=h;omega)⟩)
end Go.Proofs.YtpkieeggilkagaaGreat
namespace Go.Proofs.YtpkieeggilkagaaGreat
open Go.Ideal Kd
abbrev rgF(g:Grd)(rs:List (List Int))(y:LsY):List zJ:=[fIf (y.e=0) (fSl (slE intE) y.v (regsOf g rs))]
theorem zLT{g:Grd}{vh vc vr:Value}{rs:List (List Int)}(hS:zP7 g)(hrl:rs.length<9223372036854775808)(hrs:∀ps∈rs,ps.length<9223372036854775808):
 FnC Tryz.prog (.func 187) [.agg ⟨zH2 g vh vc⟩,vr] [] [] (fSl (slE intE) vr rs::zLA g vh vc) lsV (fun _=>[]) (fun y=>rgF g rs y) (fun y=>y.e=0↔zAB g∧zIY g rs):=by
 refine zE _ (isC 187) fun B w0=>?_;refine zR (E:=slE intE) (v:=vr) (xs:=rs) (by simp) fun ar cr er=>?_;subst er;refine go ?_;intro b2;refine zK (zN (b:=b2)) (h:=?_);refine go ?_;refine zA (zLw (g:=g) hS) (next:=fun e he=>?_);refine go ?_;first|with_reducible refine g_d (fun h1=>?_) (fun h1=>?_)|with_reducible refine g_n (fun h1=>?_) (fun h1=>?_)|with_reducible refine g_b (fun h1=>?_) (fun h1=>?_)
 rotate_left
 ·refine go ?_;refine zGi (c:=(130:Int)=0) (f:=fSl (slE intE) (.slice none 0 0) (regsOf g rs)) (by omega) ?_;exact q_fin ⟨.slice none 0 0,130⟩ (hv:=rfl) (hp:=⟨(fun h=>by cases h),fun h=>absurd (he.2 h.1) h1⟩)
 have hg:=he.1 (by omega);have hgl:=hg.len;have hinc:g.cells.Pairwise (·<·):=by rw[hg.cells];exact zGC _ _
 refine go ?_;refine if_d rfl (fun h2=>?_) (fun h2=>?_)
 ·refine go ?_;refine zGi (c:=(130:Int)=0) (f:=fSl (slE intE) (.slice none 0 0) (regsOf g rs)) (by omega) ?_;exact q_fin ⟨.slice none 0 0,130⟩ (hv:=rfl) (hp:=⟨(fun h=>by cases h),fun h=>by exfalso;have:=h.2.len;omega⟩)
 refine go ?_;refine zAd (slE intE) ?_;refine zH (fun y:Nat×Value=>rs.length - y.1) (fun y=>[(24,.int .i64 (y.1:Int)),(4,y.2)]) (fun y=>[ap (slE intE) y.2 (regsOf g (rs.take y.1))]) (fun _=>[]) (fun y=>y.1≤rs.length∧∀ps∈rs.take y.1,zTm g ps) (0,.slice none 0 0) ⟨Nat.zero_le _,fun ps h=>by cases h⟩ (hk:=by repeat (first|exact SelL.nil|(apply SelL.cons;(focus (repeat (first|exact Sel.here|apply Sel.there)))))) (body:=?_);rintro⟨k,v4⟩ ⟨hk,hall⟩;dsimp only at hk hall⊢;have hkl:(regsOf g (rs.take k)).length=k:=by unfold regsOf;rw[List.length_map,List.length_take];omega
 refine go ?_;refine if_d rfl (fun h3=>?_) (fun h3=>?_)
 ·refine go ?_;refine zV (slE intE) (xs:=rs) (next:=fun _ _ ps (vp:Value) hps=>?_);have hpm:=List.mem_of_getElem? hps;have hpl:=hrs ps hpm;have htk:=zP hps;refine zR (E:=intE) (v:=vp) (xs:=ps) (by simp) fun a4 c4 e4=>?_;subst e4;refine go ?_;refine zCU zDR (fun bm=>?_);refine go ?_;refine zAd intE ?_;refine zH (fun y:Nat×Value=>ps.length - y.1) (fun y=>[(31,.int .i64 (y.1:Int)),(8,y.2)]) (fun y=>[ap intE y.2 (zAO g (ps.take y.1)),mpA zDR bm (zHP (zAO g (ps.take y.1)))]) (fun _=>[]) (fun y=>y.1≤ps.length∧(∀p∈ps.take y.1,p∈g.cells)∧(zAO g (ps.take y.1)).Nodup) (0,.slice none 0 0) ⟨Nat.zero_le _,(fun p h=>by cases h),List.nodup_nil⟩ (hk:=by repeat (first|exact SelL.nil|(apply SelL.cons;(focus (repeat (first|exact Sel.here|apply Sel.there)))))) (body:=?_);rintro⟨j,v8⟩ ⟨hj,hmem,hnd⟩;dsimp only at hj hmem hnd⊢;have hjl:(zAO g (ps.take j)).length=j:=by unfold zAO;rw[List.length_map,List.length_take];omega
  have hj2:j≤256:=by have:=zFa hmem hnd;rw[List.length_take]at this;omega
  refine go ?_;refine if_d rfl (fun h4=>?_) (fun h4=>?_)
  ·refine go ?_;intro _ _ x hx;have htx:=zP hx;refine go ?_;refine zA (zQU (xs:=g.cells) (z:=x) (by omega) (hinc.imp fun h=>Int.le_of_lt h)) (next:=fun y hy=>?_);have hym:=hy.mem hinc;obtain⟨c,ok⟩:=y;dsimp only at hym⊢;cases ok with
   |false=>
    refine go ?_;refine zGi (c:=(130:Int)=0) (f:=fSl (slE intE) (.slice none 0 0) (regsOf g rs)) (by omega) ?_;exact q_fin ⟨.slice none 0 0,130⟩ (hv:=rfl) (hp:=⟨(fun h=>by cases h),fun h=>by
     have:=hym.2 ((h.2.all ps hpm).mem x (List.mem_of_getElem? hx));cases this⟩)
   |true=>
    have hxm:=hym.1 rfl;have hxc:g.cells[c]? =some x:=hy.2.2.2.1 rfl;have hpos:=zKK hinc hxc;have hr1:zAO g (ps.take (j+1))=zAO g (ps.take j)++[(c:Int)]:=by unfold zAO;rw[htx,List.map_append,List.map_singleton,hpos]
    refine go ?_;refine zH0 (toV:=zDR) (b:=bm) (kvs:=zHP (zAO g (ps.take j))) zEP (c:Int) ?_;rw[zQt];refine go ?_;refine if_d rfl (fun h5=>?_) (fun h5=>?_)
    ·refine go ?_;refine zGi (c:=(130:Int)=0) (f:=fSl (slE intE) (.slice none 0 0) (regsOf g rs)) (by omega) ?_;exact q_fin ⟨.slice none 0 0,130⟩ (hv:=rfl) (hp:=⟨(fun h=>by cases h),fun h=>by
      exfalso
      have h6:(zAO g ps).Nodup:=(h.2.all ps hpm).nd;have h7:(zAO g (ps.take (j+1))).Nodup:=by
       refine h6.sublist ?_;unfold zAO;exact(List.take_sublist _ _).map _
      rw[hr1,List.nodup_append]at h7;exact h7.2.2 _ h5 _ (List.mem_singleton.2 rfl) rfl⟩)
    ·refine go ?_;refine zGu (toV:=zDR) (b:=bm) (v:=.bool true) (kvs:=zHP (zAO g (ps.take j))) zEP (c:Int) ?_;rw[← zER,← hr1];refine go ?_;intro b53;refine go ?_;refine zAv (xs:=zAO g (ps.take j)) intE (c:Int) () (by omega) (next:=fun ad=>?_);rw[← hr1];refine go ?_;refine zB (j+1,.slice ad ((zAO g (ps.take j)).length+1) ((zAO g (ps.take j)).length+1)) (by show ps.length - (j+1)<ps.length - j;omega) ⟨by show j+1≤_;omega,?_,?_⟩
     ·show∀p∈ps.take (j+1),p∈g.cells;rw[htx];intro p hp;rcases List.mem_append.1 hp with hp|hp
      ·exact hmem p hp
      ·rw[List.mem_singleton.1 hp];exact hxm
     ·show(zAO g (ps.take (j+1))).Nodup;rw[hr1,List.nodup_append];exact⟨hnd,by simp,fun a ha b hb e=>h5 (by rw[List.mem_singleton.1 hb]at e;rw[← e];exact ha)⟩
  have hje:j=ps.length:=by omega
  subst hje;rw[List.take_length]at hmem hnd⊢;have hrl2:(zAO g ps).length=ps.length:=by unfold zAO;rw[List.length_map]
  refine zDf (E:=intE) (v:=v8) (xs:=zAO g ps) fun a8 e8=>?_;subst e8;refine go ?_;refine if_d rfl (fun h5=>?_) (fun h5=>?_)
  ·refine go ?_;refine zGi (c:=(130:Int)=0) (f:=fSl (slE intE) (.slice none 0 0) (regsOf g rs)) (by omega) ?_;exact q_fin ⟨.slice none 0 0,130⟩ (hv:=rfl) (hp:=⟨(fun h=>by cases h),fun h=>by
    exfalso
    exact(h.2.all ps hpm).ne (List.length_eq_zero_iff.1 (by omega))⟩)
  have hR:zTm g ps:=⟨fun e=>h5 (by rw[hrl2,e];rfl),hmem,hnd⟩
  have hrr:regsOf g (rs.take (k+1))=regsOf g (rs.take k)++[zAO g ps]:=by unfold regsOf;rw[htk,List.map_append,List.map_singleton]
  refine zK (z5 (E:=intE) (v:=.slice a8 (zAO g ps).length (zAO g ps).length) (xs:=zAO g ps)) (h:=?_);refine go ?_;intro b61;refine go ?_;refine zAv (xs:=regsOf g (rs.take k)) (slE intE) (zAO g ps) (.slice a8 (zAO g ps).length (zAO g ps).length) (by omega) (next:=fun ad=>?_);rw[← hrr];refine go ?_;refine zB (k+1,.slice ad ((regsOf g (rs.take k)).length+1) ((regsOf g (rs.take k)).length+1)) (by show rs.length - (k+1)<rs.length - k;omega) ⟨by show k+1≤_;omega,?_⟩;show∀qs∈rs.take (k+1),zTm g qs;rw[htk];intro qs hq;rcases List.mem_append.1 hq with hq|hq
  ·exact hall qs hq
  ·rw[List.mem_singleton.1 hq];exact hR
 have hke:k=rs.length:=by omega
 subst hke;rw[List.take_length]at hall⊢;refine zK (z5 (E:=slE intE) (v:=v4) (xs:=regsOf g rs)) (h:=?_);refine go ?_;refine zFd (c:=(0:Int)=0) (f:=fSl (slE intE) v4 (regsOf g rs)) (by simp) ?_;exact q_fin ⟨v4,0⟩ (hv:=rfl) (hp:=⟨fun _=>⟨hg,by omega,hall⟩,fun _=>rfl⟩)
end Go.Proofs.YtpkieeggilkagaaGreat
