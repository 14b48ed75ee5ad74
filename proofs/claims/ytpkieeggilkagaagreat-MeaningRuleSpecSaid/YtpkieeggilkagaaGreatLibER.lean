/-
  Part LibER.
-/
import Derived.Test.YtpkieeggilkagaaGreatShelf
import Derived.Test.YtpkieeggilkagaaGreatIdealOR
import Derived.Test.YtpkieeggilkagaaGreatLibDR
set_option linter.all false
set_option maxRecDepth 10000
namespace Go.Proofs.YtpkieeggilkagaaGreat
open Go.Ideal
noncomputable def Og:=wK Tryz.prog 249
theorem Vx:nV Tryz.prog 249=some Og:=by kernel_rfl
theorem srt:M3 Tryz.prog 249:=λblk off cap zs w h1 h2 h3=>Any.slices_Sort_int Tryz.lays189 blk off cap zs w h1 h2 h3
end Go.Proofs.YtpkieeggilkagaaGreat
set_option maxHeartbeats 4000000
namespace Go.Proofs.YtpkieeggilkagaaGreat
open Go.Ideal Kd
noncomputable def Oh:=wK Tryz.prog 245
theorem Vy:nV Tryz.prog 245=some Oh:=by kernel_rfl
noncomputable def Oi:=wK Tryz.prog 184
theorem afq:nV Tryz.prog 184=some Oi:=by kernel_rfl
theorem afr{x:Int}:bV Tryz.prog 203 [.int .i64 x] [] (.bool false):=by
 refine aC _ (aF 203) λB w0=>?_;refine go ?_;refine ae () (hv:=?_) (hp:=trivial);rw[aS (λh=>h rfl)];rfl
theorem afs{x:Int}:bV Tryz.prog 268 [.int .i64 x] [] (.bool false):=by
 refine aC _ (aF 268) λB w0=>?_;refine go ?_;refine ae () (hv:=?_) (hp:=trivial);rw[aS (λh=>h rfl)];rfl
theorem aft{x y:Int}:bV Tryz.prog 267 [.int .i64 x,.int .i64 y] [] (.bool (decide (x<y))):=by
 refine aC _ (aF 267) λB w0=>?_;refine go ?_;refine aj (afr (x:=x)) (next:=λ_ _=>?_);refine go ?_;exact ae () (hv:=rfl) (hp:=trivial)
def Oj(xs:List Int)(z:Int)(y:Nat×Bool):Prop:=y.1<=xs.length/\(∀(j:Nat) x,j<y.1->xs[j]? =some x->x<z)/\(∀(j:Nat) x,y.1<=j->xs[j]? =some x->z<=x)/\(y.2=true↔xs[y.1]? =some z)
theorem Oj.mem{xs:List Int}{z:Int}{y:Nat×Bool}(h:Oj xs z y)(hs:xs.Pairwise (·<·)):y.2=true↔z∈xs:=by
 obtain⟨h1,h2,h3,h4⟩:=h;rw[h4];refine⟨λh=>aP h,λh=>?_⟩;obtain⟨j,hj⟩:=vz.1 h;have hjl:=(bK.1 hj)
 rcases Nat.lt_trichotomy j y.1 with h5|h5|h5
 ·have:=h2 j z h5 hj;omega
 ·rw[<- h5];exact hj
 ·have hyl:y.1<xs.length:=by have:=hjl.1;omega
  have hy:xs[y.1]? =some xs[y.1]:=bN hyl;have h6:=h3 y.1 _ (bU _) hy;have h7:=zH.1 hs y.1 j hyl hjl.1 h5;rw[hjl.2]at h7;omega
theorem Vz{v:Value}{xs:List Int}{z:Int}(hl:xs.length<4611686018427387904)(hs:xs.Pairwise (·<=·)):
 aV Tryz.prog (.func 246) [v,.int .i64 z] [] [] [ah aa v xs] (λy:Nat×Bool=>.tuple ⟨[.int .i64 (y.1:Int),.bool y.2]⟩) (λ_=>[]) (λ_=>[]) (Oj xs z):=by
 refine aC _ (aF 246) λB w0=>?_;refine go ?_;refine aR (λy:Nat×Nat=>y.2 - y.1) (λy=>[(7,.int .i64 (y.1:Int)),(8,.int .i64 (y.2:Int))]) (λ_=>[]) (λ_=>[]) (λy=>y.1<=y.2/\y.2<=xs.length/\(∀(j:Nat) x,j<y.1->xs[j]? =some x->x<z)/\(∀(j:Nat) x,y.2<=j->xs[j]? =some x->z<=x)) (0,xs.length) ⟨bJ _,bU _,λj x hj=>by omega,λj x hj hx=>by have:=(bK.1 hx).1;omega⟩ (body:=?_);rintro⟨a,b⟩ ⟨hab,hb,hlo,hhi⟩;dsimp only at hab hb hlo hhi⊢;refine go ?_;refine ay rfl (λh1=>?_) (λh1=>?_)
 ·have LH:a<=(a+b)>>>1/\(a+b)>>>1<b:=by
   rw[WY];omega
  generalize hm:(a+b)>>>1=m at LH;refine go ?_;rw[show(a:Int)+(b:Int)=((a+b:Nat):Int)by omega];refine(gH rfl rfl (Na (k:=.u64) (m:=((a+b:Nat):Int)) (by kernel_rfl:Tryz.prog.underlying 3=some (.int .i64)) (by kernel_rfl) rfl (acR (by omega)))).h ?_;refine(gH rfl rfl (acS (a:=a+b) (b:=1) rfl rfl (by omega))).h ?_;rw[hm];refine(gH rfl rfl (Na (k:=.i64) (m:=(m:Int)) (by kernel_rfl:Tryz.prog.underlying 178=some (.int .u64)) (by kernel_rfl) rfl (wrapN (by omega)))).h ?_;refine go ?_;intro _ _ x hx;refine go ?_;refine aj (aft (x:=x) (y:=z)) (next:=λ_ _=>?_);refine go ?_;have hle:∀(i j:Nat) u v,i<=j->xs[i]? =some u->xs[j]? =some v->u<=v:=by
   intro i j u v hij hu hv;by_cases e:i=j
   ·subst e;rw[hu]at hv;injection hv with hv;omega
   ·exact zH.1 hs i j (bK.1 hu).1 (bK.1 hv).1 (by omega)|>λh=>by
     rw[(bK.1 hu).2,(bK.1 hv).2]at h;exact h
  refine ay rfl (λh2=>?_) (λh2=>?_)
  ·refine go ?_;refine aD (m+1,b) (by show b - (m+1)<b - a;omega) ⟨by show m+1<=b;omega,hb,λj u hj hu=>?_,hhi⟩;have:=hle j m u x (by show j<=m;have:j<m+1:=hj;omega) hu hx;omega
  ·refine go ?_;refine aD (a,m) (by show m - a<b - a;omega) ⟨by show a<=m;omega,by show m<=_;omega,hlo,λj u hj hu=>?_⟩;have:=hle m j x u hj hx hu;omega
 have hba:b=a:=by omega
 subst hba;refine go ?_;refine gG (λh2=>?_) (λh2=>?_)
 ·have hn:xs[b]? =none:=iX (by omega);refine go ?_;exact ae (b,false) (hv:=rfl) (hp:=⟨by show b<=_;omega,hlo,hhi,by show false=true↔xs[b]? =some z;rw[hn];simp⟩)
 refine go ?_;intro _ _ x hx;refine go ?_;by_cases hxz:x=z
 ·subst hxz;rw[dQ rfl];refine go ?_;exact ae (b,true) (hv:=rfl) (hp:=⟨by show b<=_;omega,hlo,hhi,by show true=true↔xs[b]? =some x;simp[hx]⟩)
 ·rw[aS hxz];refine go ?_;intro _ _ x2 hx2;refine go ?_;refine aj (afs (x:=x2)) (next:=λ_ _=>?_);refine go ?_;exact ae (b,false) (hv:=rfl) (hp:=⟨by show b<=_;omega,hlo,hhi,by show false=true↔xs[b]? =some z;rw[hx];simp[hxz]⟩)
theorem VA{v:Value}{aO:List (Int×aa.Y)}(hl:aO.length<=4096):aV Tryz.prog (.func 245) [v] [] [] [tq aa v aO] (λv':Value=>v') (λv'=>[ar aa v' aO]) (λ_=>[]) (λ_=>True):=by
 refine aC Oh Vy λB w0=>?_;refine N8 (v:=v) (aO:=aO) aa (λe c ev=>?_) (λe i o f c ev=>?_) (λhne i o f c ev=>?_)
 ·subst e ev;refine go ?_;refine(gH rfl rfl (I4 (e:=3) (by kernel_rfl) rfl)).h ?_;refine go ?_;refine N9 aa ?_;exact ae (.slice none 0 0) (hv:=rfl) (hp:=trivial)
 ·subst e ev;refine go ?_;refine(gH rfl rfl (CJ (e:=3) (by kernel_rfl) rfl)).h ?_;refine go ?_;intro b;refine go ?_;refine M7 (b:=b) ?_;refine go ?_;refine uN (b:=b) (m:=0) (f:=0) aa (aO:=[]) rfl (.inl rfl) ?_ (hk:=aA.here);exact ae (.slice (some ⟨b,0,some 0⟩) 0 0) (hv:=rfl) (hp:=trivial)
 ·subst ev;refine go ?_;refine(gH rfl rfl (CJ (e:=3) (by kernel_rfl) rfl)).h ?_;refine go ?_;intro b;refine go ?_;refine M8 (b:=b) aa aO hne (by omega) (λb'=>?_);refine go ?_;refine uN (b:=b') (m:=aO.length) (f:=aa.n) aa (aO:=aO) rfl (.inr rfl) ?_ (hk:=aA.here);exact ae (.slice (some ⟨b',0,some aa.n⟩) aO.length aO.length) (hv:=rfl) (hp:=trivial)
abbrev FN:List Value:=[.int .i64 0,.int .i64 0,.int .i64 0,.slice none 0 0,.slice none 0 0]
abbrev iW(g:bD)(vh vc:Value):List Value:=[.int .i64 g.shape,.int .i64 g.w,.int .i64 g.h,vh,vc]
abbrev jD(g:bD)(vh vc:Value):List aL:=[ah aa vh g.holes,ah aa vc g.cells]
structure Ol where
 ok:Bool
 vh:Value
 vc:Value
def wm(s w h:Int)(holes:List Int):bD:=⟨s,w,h,holes,mU w h holes⟩
abbrev mkV(s w h:Int)(holes:List Int)(y:Ol):Value:=.tuple ⟨[.agg ⟨cond y.ok (iW (wm s w h holes) y.vh y.vc) FN⟩,.int .i64 (cond y.ok 0 130)]⟩
abbrev pG(s w h:Int)(holes:List Int)(y:Ol):List aL:=cond y.ok (jD (wm s w h holes) y.vh y.vc) []
def xU(xs:List Int):Int:=xs.getLast?.getD (-1)
theorem VB(xs:List Int)(x:Int):xU (xs++[x])=x:=by simp[xU]
theorem afu{xs:List Int}(h:∀x∈xs,0<=x): -1<=xU xs:=by
 unfold xU;cases hx:xs.getLast? with
 |none=>simp
 |some x=>
  have:=h x (List.mem_of_getLast? hx);simp only[vo];omega
theorem VC{xs:List Int}(h:xs.Pairwise (·<·)){a:Int}(ha:a∈xs):a<=xU xs:=by
 unfold xU;cases hx:xs.getLast? with
 |none=>rw[List.getLast?_eq_none_iff]at hx;subst hx;cases ha
 |some x=>
  obtain⟨ys,rfl⟩:=List.getLast?_eq_some_iff.1 hx;simp only[vo];rcases dB.1 ha with h1|h1
  ·have:=(DN.1 h).2.2 a h1 x (bM.2 rfl);omega
  ·rw[bM.1 h1];exact Int.le_refl _
theorem afv{xs:List Int}{k:Nat}{x:Int}(h:xs.Pairwise (·<·))(hx:xs[k]? =some x)(h0:0<=x):xU (xs.take k)<x:=by
 unfold xU;cases hl:(xs.take k).getLast? with
 |none=>simp only[Option.getD_none];omega
 |some y=>
  simp only[vo];have hy:=List.mem_of_getLast? hl;have hd:xs=xs.take k++x::xs.drop (k+1):=by
   conv=>lhs;rw[<- su k xs]
   rw[nR (bK.1 hx).1,(bK.1 hx).2]
  rw[hd]at h;exact(DN.1 h).2.2 y hy x (dJ ..)
theorem Om{s w h:Int}{holes:List Int}{vh:Value}(hw64:kD w)(afw:kD h)(hl:holes.length<4611686018427387904):
 aV Tryz.prog (.func 184) [.int .i64 s,.int .i64 w,.int .i64 h,vh] [] [] [ah aa vh holes] (mkV s w h holes) (λ_=>[]) (pG s w h holes) (λy=>y.ok=true↔oM s w h holes):=by
 have bad:¬oM s w h holes->∀{B:List Nat} {w0:Wd} {kl:List OA} {F:List aL} {l:List (Nat×Value)} {n b:Nat} {bA:List OA},lk l 8=ptr' b->lk l 9=.int .i64 130->aA (pt b (.cells FN)) kl bA->
  R (λh0=>Ck Oi (Go.Ideal.Left B w0 (mkV s w h holes) (λ_=>[]) (pG s w h holes) (λy=>y.ok=true↔oM s w h holes)) .ret (act n l [] none none) h0) B w0 kl F:=by
  intro hno B w0 kl F l n b bA h8 h9 hk;refine R9 (bA:=kl) ⟨false,.nilFunc,.nilFunc⟩ (vs:=[.agg ⟨FN⟩,.int .i64 130]) ?_ rfl ⟨(λe=>by cases e),λe=>absurd e hno⟩ .nil .nil (.inr rfl);show RS l kl [.qz 5 8,.tmp 9] _;exact .qz h8 hk rfl (.tmp h9 .nil)
 refine aC Oi afq λB w0=>?_;refine go ?_;intro b8;refine go ?_;by_cases hsh:s=1\/s=2
 rotate_left
 ·rw[dQ (show s≠1 from λe=>hsh (.inl e))];refine go ?_;rw[dQ (show s≠2 from λe=>hsh (.inr e))];refine go ?_;exact bad (λh=>hsh h.sh) rfl rfl .here
 have hmk:∀sh,(sh=1\/sh=2)->(oM sh w h holes↔oM s w h holes):=λsh e=>⟨λq=>⟨hsh,q.wi,q.he,q.len,q.inc,q.mem⟩,λq=>⟨e,q.wi,q.he,q.len,q.inc,q.mem⟩⟩
 have h22:∀{B:List Nat} {w0:Wd} {kl:List OA} {F:List aL} {K:KO} {ds:List Tmp} {rest:List bT} {n:Nat} {l:List (Nat×Value)} {D:List Deferred},
  R (λh0=>aK Tryz.prog ds rest (act n ((22,.bool false)::(21,.bool false)::l) D none none) h0 K) B w0 kl F->R (λh0=>aK Tryz.prog ds rest (act n ((22,.bool false)::(21,.bool false)::l) D none none) h0 K) B w0 kl F:=λh=>h
 rcases hsh with rfl|rfl;all_goals
  refine go ?_;refine gG (λa1=>?_) (λa1=>?_)
  rotate_left
  ·refine go ?_;exact bad (λq=>by have:=q.wi;omega) rfl rfl .here
  refine go ?_;refine gG (λa2=>?_) (λa2=>?_)
  rotate_left
  ·refine go ?_;exact bad (λq=>by have:=q.wi;omega) rfl rfl .here
  refine go ?_;refine gG (λa3=>?_) (λa3=>?_)
  rotate_left
  ·refine go ?_;exact bad (λq=>by have:=q.he;omega) rfl rfl .here
  refine go ?_;refine gG (λa4=>?_) (λa4=>?_)
  rotate_left
  ·refine go ?_;exact bad (λq=>by have:=q.he;omega) rfl rfl .here
  have hwh:=xE (w:=w) (h:=h) ⟨by omega,by omega⟩ ⟨by omega,by omega⟩;refine go ?_;refine ay rfl (λa5=>?_) (λa5=>?_)
  ·refine go ?_;exact bad (λq=>by have:=q.len;omega) rfl rfl .here
  refine go ?_;refine aR (λk=>holes.length - k) (λk:Nat=>[(49,.int .i64 (k:Int)),(10,.int .i64 (xU (holes.take k)))]) (λ_=>[]) (λ_=>[]) (λk=>k<=holes.length/\(holes.take k).Pairwise (·<·)/\∀x∈holes.take k,0<=x/\x<w*h) 0 ⟨bJ _,by simp,by simp⟩ (body:=?_);rintro k ⟨hk,mX,hmem⟩;refine go ?_;refine ay rfl (λa6=>?_) (λa6=>?_)
  ·refine go ?_;intro _ _ x hx;refine go ?_;have hxm:=aP hx;refine gG (λa7=>?_) (λa7=>?_)
   rotate_left
   ·refine go ?_;exact bad (λq=>by
     have h1:=q.inc;have h2:=q.mem x hxm;have:=afv h1 hx h2.1;omega) rfl rfl .here
   refine go ?_;refine ay rfl (λa8=>?_) (λa8=>?_)
   ·refine go ?_;exact bad (λq=>by have:=q.mem x hxm;omega) rfl rfl .here
   refine go ?_;have htk:holes.take (k+1)=holes.take k++[x]:=by rw[nS,hx];rfl
   refine aD (k+1) (by omega) ⟨by omega,?_,?_⟩ (hl:=⟨rfl,by rw[htk,VB];rfl,by repeat (first|exact trivial|refine⟨rfl,?_⟩)⟩)
   ·rw[htk,DN];refine⟨mX,by simp,λa ha b hb=>?_⟩;rw[bM.1 hb];have:=VC mX ha;omega
   ·rw[htk];intro z hz;rcases dB.1 hz with hz|hz
    ·exact hmem z hz
    ·rw[bM.1 hz];have:=afu (λy hy=>(hmem y hy).1);omega
  have hkl:k=holes.length:=by omega
  subst hkl;rw[bC]at mX hmem;have hok:∀s',(s'=1\/s'=2)->oM s' w h holes:=λs' hs'=>⟨hs',⟨by omega,by omega⟩,⟨by omega,by omega⟩,by omega,mX,hmem⟩
  obtain⟨m,hm⟩:=dZ (show 0<=w*h by omega);have FO:mU w h holes=gJ m holes:=by
   unfold mU;rw[hm];rfl
  refine go ?_;refine M6 aa vh (λxh hxh=>?_);have hxl:xh.length=holes.length:=by rw[<- hxh,dV]
  refine aj (VA (aO:=xh) (by omega)) (next:=λv1 _=>?_);refine I1 (E:=aa) (v:=v1) (aO:=xh) ?_ (λw h p hp f hf=>by cases hf);rw[hxh];refine aT (E:=aa) (v:=v1) (xs:=holes) (by simp) λa1 c1 e1=>?_;subst e1;refine go ?_;rw[hm];refine fJ aa ?_;refine aR (λy:Nat×Option Addr=>m - y.1) (λy=>[(75,.int .i64 (y.1:Int))]) (λy=>[pt b8 (.cells [.int .i64 _,.int .i64 w,.int .i64 h,.slice a1 holes.length c1,.slice y.2 (gJ y.1 holes).length (gJ y.1 holes).length]),ap aa (.slice y.2 (gJ y.1 holes).length (gJ y.1 holes).length) (gJ y.1 holes)]) (λ_=>[]) (λy=>y.1<=m) (0,none) (bJ _) (hk:=by repeat (first|exact aJ.nil|(apply aJ.cons;(focus (repeat (first|exact aA.here|apply aA.there)))))) (body:=?_);rintro⟨k,ad⟩ hk;dsimp only at hk⊢;have hcl:=CS k holes;refine go ?_;refine ay rfl (λa9=>?_) (λa9=>?_)
  ·refine go ?_;refine aj (Vz (xs:=holes) (z:=(k:Int)) hl (mX.imp (λh=>Int.le_of_lt h))) (next:=λy hy=>?_);have hmm:=hy.mem mX;clear hy;obtain⟨n,b⟩:=y;dsimp only at hmm;refine go ?_;cases b with
   |true=>
    refine go ?_;have e1:gJ (k+1) holes=gJ k holes:=by rw[Jf,if_pos (hmm.1 rfl),gV]
    rw[<- e1];exact aD (k+1,ad) (by show m - (k+1)<m - k;omega) (by show k+1<=m;omega)
   |false=>
    have hnm:¬(k:Int)∈holes:=λh=>by have:=hmm.2 h;cases this
    have e1:gJ k holes++[(k:Int)]=gJ (k+1) holes:=by rw[Jf,if_neg hnm]
    have e2:(gJ k holes).length+1=(gJ (k+1) holes).length:=by rw[<- e1];simp
    refine go ?_;intro b89;refine go ?_;refine eG aa (xs:=gJ k holes) (k:Int) () (by omega) λNY=>?_;rw[e1,e2];refine go ?_;exact aD (k+1,NY) (by show m - (k+1)<m - k;omega) (by show k+1<=m;omega)
  have hkm:k=m:=by omega
  subst hkm;refine go ?_;refine aW fG (A:=ap aa (.slice ad (gJ k holes).length (gJ k holes).length) (gJ k holes)) (h:=?_);refine go ?_;refine ae ⟨true,.slice a1 holes.length c1,.slice ad (gJ k holes).length (gJ k holes).length⟩ (hv:=rfl) (hp:=⟨λ_=>hok _ (by first|exact .inl rfl|exact .inr rfl),λ_=>rfl⟩) (hF:=?_);show Sub [ah aa _ holes,ah aa _ (mU w h holes)] _;rw[FO];exact .cons (by simp) (.cons (by simp) .nil)
end Go.Proofs.YtpkieeggilkagaaGreat
namespace Go.Proofs.YtpkieeggilkagaaGreat
open Go.Ideal Kd
structure qM(g:bD):Prop where
 w:kD g.w
 h:kD g.h
 holes:g.holes.length<4611686018427387904
 cells:g.cells.length<4611686018427387904
theorem VD{g:bD}{vh vc:Value}(hS:qM g):
 aV Tryz.prog (.func 247) [.agg ⟨iW g vh vc⟩] [] [] (jD g vh vc) (λe:Int=>.int .i64 e) (λ_=>[]) (λ_=>[]) (λe=>e=0↔fH g):=by
 refine aC _ (aF 247) λB w0=>?_;refine go ?_;intro b1;refine go ?_;refine aj (Om (s:=g.shape) (w:=g.w) (h:=g.h) (holes:=g.holes) (vh:=vh) hS.w hS.h hS.holes) (next:=λy hy=>?_);obtain⟨ok,v1,v2⟩:=y;cases ok with
 |false=>
  have hno:¬oM g.shape g.w g.h g.holes:=λh=>by have:=hy.2 h;cases this
  dsimp only[mkV,pG,cond,List.nil_append];refine go ?_;intro b3;refine go ?_;exact ae 130 (hv:=rfl) (hp:=⟨(λh=>by cases h),λh=>absurd h.make hno⟩)
 |true=>
  have hmk:=hy.1 rfl;dsimp only[mkV,pG,cond,jD,wm,List.cons_append,List.nil_append];refine go ?_;intro b3;refine go ?_;refine aj (zk (xs:=mU g.w g.h g.holes) (ys:=g.cells) (by
   have:=CS (g.w*g.h).toNat g.holes;have:=xE hmk.wi hmk.he;unfold mU;omega)) (next:=λ_ _=>?_)
  refine go ?_;refine eX rfl (λh1=>?_) (λh1=>?_)
  ·refine go ?_;exact ae 130 (hv:=rfl) (hp:=⟨(λh=>by cases h),λh=>absurd h.cells.symm h1⟩)
  ·refine go ?_;exact ae 0 (hv:=rfl) (hp:=⟨λ_=>⟨hmk,h1.symm⟩,λ_=>rfl⟩)
abbrev afy(x:Int×(Int×Int)):List Value:=[.int .i64 x.1,Ay x.2]
theorem Oo{b1:Nat}{g:bD}{vh vc:Value}(hg:fH g):y8 Tryz.prog afy (.func 269) [] [ptr' b1] [bZ b1 0 (iW g vh vc),ah aa vc g.cells] (λxs=>xs=bE g):=by
 intro S inv ok step s0 qF y1 y2 F' h0 hok hy;have hgl:=hg.len;have FP:=hg.make.wi;rw[dW,dW,bY];refine aC _ (aF 269) λB w0=>?_;refine go ?_;refine aR (λy:Nat×S=>g.cells.length - y.1) (λy=>[(10,.int .i64 (y.1:Int))]) (λy=>inv y.2) (λ_=>[]) (λy=>y.1<=g.cells.length/\ok ((bE g).take y.1) y.2/\gq step y.2 ((bE g).drop y.1)=gq step s0 (bE g)) (0,s0) ⟨bJ _,h0,rfl⟩ (body:=?_);rintro⟨k,s⟩ ⟨hk,hos,hrun⟩;dsimp only at hk hos hrun⊢;refine go ?_;refine ay rfl (λh1=>?_) (λh1=>?_)
 ·refine go ?_;intro _ _ x hx;have hxb:=hg.cell x (aP hx);have hsp:=xG hx;have hd:(bE g).drop k=((k:Int),nO g x)::(bE g).drop (k+1):=by
   rw[nR (by rw[qa];omega)];congr 1;rw[bN (by rw[qa];omega)]at hsp;exact Option.some.inj hsp
  have hX:(bE g).take k++((k:Int),nO g x)::(bE g).drop (k+1)=bE g:=by rw[<- hd,su]
  refine go ?_;refine(gH rfl rfl (MC (a:=x) (b:=g.w) rfl rfl (by omega))).h ?_;refine go ?_;have hq:0<=x.tdiv g.w/\x.tdiv g.w<=x:=by
   rw[ul hxb.1];exact⟨Ku hxb.1 (by omega),Int.ediv_le_self _ hxb.1⟩
  have hr:0<=x.tmod g.w/\x.tmod g.w<=x:=by
   rw[DL hxb.1];refine⟨Int.emod_nonneg _ (by omega),?_⟩;have:=PI x g.w;have h3:0<=g.w*(x/g.w):=Int.mul_nonneg (by omega) (Ku hxb.1 (by omega));omega
  refine(gH rfl rfl (IC (a:=x) (b:=g.w) rfl rfl (by omega) (by omega) (by omega))).h ?_;refine go ?_;refine ay rfl (λh2=>?_) (λh2=>?_)
  ·have hso:nO g x=(x.tmod g.w - (x.tdiv g.w).tdiv 2,x.tdiv g.w):=by unfold nO;rw[if_pos h2]
   have hq2:0<=(x.tdiv g.w).tdiv 2/\(x.tdiv g.w).tdiv 2<=x.tdiv g.w:=by
    rw[ul hq.1];omega
   rw[hso]at hX hd;have nQ:=hy _ s _ _ hos hX;refine go ?_;refine(gH rfl rfl (IC (a:=x.tdiv g.w) (b:=2) rfl rfl (by omega) (by omega) (by omega))).h ?_;refine go ?_;refine aj nQ (next:=λ_ _=>?_);rw[hd,gq]at hrun;refine go ?_;cases hst:step s ((k:Int),_)with
   |mk s' b=>
    have hst:=hst;rw[hst]at hrun;cases b with
    |true=>
     refine go ?_;refine aD (k+1,s') (by show g.cells.length - (k+1)<g.cells.length - k;omega) ⟨by show k+1<=_;omega,?_,hrun⟩;have:=hok _ s _ _ hos hX (by rw[hst]);rw[hst]at this;rw[show(bE g).take (k+1)=(bE g).take k++[_]from by rw[nS,hsp];rfl];rw[hso];exact this
    |false=>
     refine go ?_;exact ae (bE g) (hv:=rfl) (hp:=rfl) (hk:=by rw[<- hrun];exact aJ.all _)
  ·have hso:nO g x=(x.tmod g.w,x.tdiv g.w):=by unfold nO;rw[if_neg h2]
   rw[hso]at hX hd;have nQ:=hy _ s _ _ hos hX;refine go ?_;refine aj nQ (next:=λ_ _=>?_);rw[hd,gq]at hrun;refine go ?_;cases hst:step s ((k:Int),_)with
   |mk s' b=>
    have hst:=hst;rw[hst]at hrun;cases b with
    |true=>
     refine go ?_;refine aD (k+1,s') (by show g.cells.length - (k+1)<g.cells.length - k;omega) ⟨by show k+1<=_;omega,?_,hrun⟩;have:=hok _ s _ _ hos hX (by rw[hst]);rw[hst]at this;rw[show(bE g).take (k+1)=(bE g).take k++[_]from by rw[nS,hsp];rfl];rw[hso];exact this
    |false=>
     refine go ?_;exact ae (bE g) (hv:=rfl) (hp:=rfl) (hk:=by rw[<- hrun];exact aJ.all _)
 have hkl:k=(bE g).length:=by rw[qa];omega
 rw[hkl,Gn]at hrun;refine go ?_;exact ae (bE g) (hv:=rfl) (hp:=rfl) (hk:=by rw[<- hrun];exact aJ.all _)
end Go.Proofs.YtpkieeggilkagaaGreat
namespace Go.Proofs.YtpkieeggilkagaaGreat
open Go.Ideal Kd
theorem VE:Ad (pK Tryz.prog qB pM):=Cj _ _ _ (λf q h v h' hm=>by cases hm)
theorem afz(h:IH)(K:BR):(BN (pK Tryz.prog qB pM) 1000).call ⟨.func 271,[.int .u64 0],[],none⟩ h K=K (.ok (.int .i64 0)) none h:=by kernel_rfl
theorem afA:bV Tryz.prog 271 [.int .u64 0] [] (.int .i64 0):=λB w s=>by
 have h2:=afz w.h λr pm h'=> @decide (pm=none/\r=.ok (.int .i64 0)/\h'=w.h) (Classical.propDecidable _);have h1:=Hl VE (h2.trans (@dQ _ (Classical.propDecidable _) ⟨rfl,rfl,rfl⟩));refine .vH _ h1 λr pm h' hg=>?_;obtain⟨rfl,rfl,rfl⟩:= @iw _ (Classical.propDecidable _) hg;exact⟨rfl,w,(),rfl,s,rfl,trivial⟩
theorem afB{a:Option Addr}{c:Nat}:bV Tryz.prog 280 [.slice a 0 c,.int .i64 0,.int .i64 0] [] (.tuple ⟨[]⟩):=by
 refine aC _ (aF 280) λB w0=>?_;refine go ?_;refine pX ?_;refine go ?_;exact ae () (hv:=rfl) (hp:=trivial)
theorem afC{a:Option Addr}{c:Nat}:bV Tryz.prog 270 [.slice a 0 c,.int .i64 0,.int .i64 0,.int .i64 0] [] (.tuple ⟨[]⟩):=by
 refine aC _ (aF 270) λB w0=>?_;refine go ?_;refine pX ?_;refine go ?_;refine aj (afB (a:=a) (c:=c)) (next:=λ_ _=>?_);refine go ?_;exact ae () (hv:=rfl) (hp:=trivial)
theorem afD{a:Option Addr}{c:Nat}:bV Tryz.prog 249 [.slice a 0 c] [] (.tuple ⟨[]⟩):=by
 refine aC Og Vx λB w0=>?_;refine go ?_;refine(gH rfl rfl (Na (k:=.u64) (m:=0) (by kernel_rfl:Tryz.prog.underlying 3=some (.int .i64)) (by kernel_rfl) rfl (by rfl))).h ?_;refine aj afA (next:=λ_ _=>?_);refine go ?_;refine aj (afC (a:=a) (c:=c)) (next:=λ_ _=>?_);refine go ?_;exact ae () (hv:=rfl) (hp:=trivial)
theorem afE:∃fn body,Tryz.prog.funcs[249]? =some fn/\fn.body=some body/\fn.name≠ "runtime.NumGoroutine" :=by
 obtain⟨fn,h1,h2⟩:=VE.fn 249 Og Vx;have h3:Tryz.prog.funcs[249]? =some fn:=h1;have h4:(fn.name== "runtime.NumGoroutine")=false:=by
  have e:(Tryz.prog.funcs[249]?).map (λf=>f.name== "runtime.NumGoroutine")=some false:=by kernel_rfl
  rw[h3]at e;exact Option.some.inj e
 have h5:fn.body.isSome=true:=by
  have e:(Tryz.prog.funcs[249]?).map (λf=>f.body.isSome)=some true:=by kernel_rfl
  rw[h3]at e;exact Option.some.inj e
 obtain⟨body,hb⟩:=Option.isSome_iff_exists.1 h5;exact⟨fn,body,h3,hb,by simpa using h4⟩
theorem Oq{a:Option Addr}{m:Nat}{zs:List Int}(hm:m=zs.length)(hl:zs.length<4611686018427387904):
 aV Tryz.prog (.func 249) [.slice a m m] [] [ap aa (.slice a m m) zs] [] (λ_:Unit=>.tuple ⟨[]⟩) (λ_=>[ap aa (.slice a m m) (dD zs)]) (λ_=>[]) (λ_=>True):=by
 subst hm;obtain⟨fn,body,h1,h2,h3⟩:=afE;by_cases hz:zs=[]
 ·subst hz;have e:dD []=[]:=by simp[dD]
  rw[e];intro B w s;obtain⟨S1,s1,back⟩:=s.MV (k1:=[]) (bA:=[ap aa (.slice a 0 0) []]) (F1:=[]) .nil .nil;refine .vH _ (afD (a:=a) (c:=0) S1 w s1) ?_;rintro r pm h' ⟨hp,w',y,e1,st,e2,_⟩;exact⟨hp,w',(),e1,back w' _ _ st,e2,trivial⟩
 ·exact acH srt h1 h2 h3 (Dx.2 hz) hl
theorem VF:rP Tryz.prog 237 Ay:=acU (e:=3) (by kernel_rfl) (by kernel_rfl) (by kernel_rfl) (λa b=>by kernel_rfl)
theorem Ot{g:bD}{vh vc:Value}:aV Tryz.prog (.func 248) [.agg ⟨iW g vh vc⟩] [] [] (jD g vh vc) (λb:Nat=>.func (.func 269) #[] #[ptr' b]) (λ_=>[]) (λb=>[bZ b 0 (iW g vh vc),ah aa vc g.cells]) (λ_=>True):=by
 refine aC _ (aF 248) λB w0=>?_;refine go ?_;intro b1;refine go ?_;refine aW (eB (b:=b1)) (h:=?_);exact ae b1 (hv:=rfl) (hp:=trivial)
def kX(c:Prop)(f:aL):aL:=⟨λw=>c->f.p w,λa h e=>f.mono a (h e)⟩
theorem kY{B:List Nat}{w0:Wd}{kl:List OA}{F:List aL}{Q:IH->Prop}{c:Prop}{f:aL}(hc:¬c)(h:R Q B w0 kl (kX c f::F)):R Q B w0 kl F:=fD (kX c f) (λw _ e=>absurd e hc) h
theorem kJ{B:List Nat}{w0:Wd}{kl:List OA}{F:List aL}{Q:IH->Prop}{c:Prop}{f:aL}(hf:f∈F)(h:R Q B w0 kl (kX c f::F)):R Q B w0 kl F:=fD (kX c f) (λw hw _=>hw f hf) h
structure Ou where
 v:Value
 e:Int
abbrev tT(y:Ou):Value:=.tuple ⟨[y.v,.int .i64 y.e]⟩
theorem JI{S α:Type}(f:S->α->S):∀(xs:List α) (s:S),iO (λs x=>(f s x,Out.normal)) s xs=(xs.foldl f s,.normal)
 |[],s=>rfl
 |x::xs,s=>by
  show iO (λs x=>(f s x,Out.normal)) (f s x) xs=_;rw[JI f xs];rfl
section
variable {P:Program} {B:List Nat} {w0:Wd} {kl kl':List OA} {F:List aL} {Q:IH->Prop}
theorem afF{b:Nat}{cs cs':List Value}(e:cs=cs')(h:R Q B w0 (pt b (.cells cs')::kl') F)(hk:aA (pt b (.cells cs)) kl kl':=by exact gz):R Q B w0 kl F:=by
 subst e;exact λw s=>h w (s.fZ hk)
theorem qi{α:Type}{E:Enc α}{v:Value}{xs:List α}(h:∀a,v=.slice a xs.length xs.length->R Q B w0 kl F)(hk:aA (ap E v xs) kl kl':=by exact gz):R Q B w0 kl F:=λw s=>by
 obtain⟨S,⟨S1,S2,q,_⟩,_⟩:=(s.fZ hk).own;obtain⟨a,e⟩:=Mw q;exact h a e w s
end
abbrev A7(b n:Nat):Value:=.slice (some ⟨b,0,some 0⟩) n n
theorem VG{g:bD}{vh vc:Value}(hS:qM g):
 aV Tryz.prog (.func 185) [.agg ⟨iW g vh vc⟩] [] [] (jD g vh vc) tT (λ_=>[]) (λy=>[kX (y.e=0) (ah (tH aa) y.v (bO g))]) (λy=>y.e=0↔fH g):=by
 refine Cx _ (aF 185) λB w0=>?_;refine go ?_;intro b1 b2;refine go ?_;refine aj (VD (g:=g) hS) (next:=λe he=>?_);refine go ?_;refine ay rfl (λh1=>?_) (λh1=>?_)
 ·refine go ?_;refine kY (c:=(130:Int)=0) (f:=ah (tH aa) (.slice none 0 0) (bO g)) (by omega) ?_;exact Al ⟨.slice none 0 0,130⟩ (hv:=rfl) (hp:=⟨(λh=>by cases h),λh=>absurd (he.2 h) h1⟩)
 have hg:=he.1 (by omega);have hgl:=hg.len;have hsb:=Jh hg;have hsl:=qa g;refine go ?_;intro b4 b5;refine go ?_;refine Sn (bA:=[pt b4 (.cells CU),pt b2 (.cells [.slice none 0 0]),pt b1 (.cells (iW g vh vc))]) [] (λ_:Unit=>[]) (λ_=>[pt b5 (.cells [.int .i64 (dS g:Int)])]) (λ_=>[]) (λ_=>True) (hx:=?_) (hy:=?_)
 ·refine ay rfl (λh2=>?_) (λh2=>?_)
  ·refine go ?_;rw[show(4:Int)=(dS g:Int)by unfold dS;rw[if_pos h2];rfl];exact IW () trivial
  ·refine go ?_;rw[show(6:Int)=(dS g:Int)by unfold dS;rw[if_neg h2];rfl];exact IW () trivial
 intro _ _;refine go ?_;refine y7 Ay (λbm=>?_);refine go ?_;intro b6;refine go ?_;refine aj (Ot (g:=g) (vh:=vh) (vc:=vc)) (next:=λbs _=>?_);refine go ?_;refine IZ (Z:=Nat) (λ(m:List ((Int×Int)×Value)) (x:Int×(Int×Int))=>(upd x.2 (.int .i64 x.1) m,.normal)) (λm=>[gQ Ay bm m,pt b6 (.cells [.map (some bm)])]) (λvs m=>m=fB vs) [] _ (λx b8=>[pt b8 (.cells [.int .i64 x.2.1,.int .i64 x.2.2])]) rfl (λvs s x rest hs _ _=>by rw[hs,Nt]) (Oo (b1:=bs) (vh:=vh) (vc:=vc) hg) (by intro s x lo o B w0;refine go ?_;intro b8;refine go ?_;exact Fb b8 rfl) ?_ ?_ (λ_ _=>trivial)
 ·intro vs s x rest b8 lo L B w0 hs hX;dsimp only[List.cons_append,List.nil_append];refine go ?_;refine xq VF x.2 (v:=.int .i64 x.1) ?_;refine go ?_;exact w9 () rfl trivial trivial
 intro r1 xs hxs;subst hxs;rw[JI (λ(m:List ((Int×Int)×Value)) (x:Int×(Int×Int))=>upd x.2 (.int .i64 x.1) m)];dsimp only[List.cons_append,List.nil_append];rw[show(bE g).foldl (λ(m:List ((Int×Int)×Value)) (x:Int×(Int×Int))=>upd x.2 (.int .i64 x.1) m) []=fB (bE g)from rfl];refine aW (CE (b:=bm)) (h:=?_);refine aW (eB (b:=b6)) (h:=?_);refine go ?_;refine Am g.cells.length ⟨by omega,by omega,by omega⟩ λbl=>?_;rw[show zeros [.slice none 0 0] g.cells.length=List.replicate g.cells.length (.slice none 0 0)from EK _ _];refine ac6 (lF aa) (x0:=([]:List Int)) (λw=>⟨.inl ⟨rfl,rfl,rfl⟩,λ_=>rfl⟩) (h:=?_);refine go ?_;refine aj (Ot (g:=g) (vh:=vh) (vc:=vc)) (next:=λbs2 _=>?_);refine go ?_;refine aW (eB (b:=b4)) (h:=?_);refine aW (eB (b:=b5)) (h:=?_);have hml:(eP.take (dS g)).length=dS g:=by rw[gL];show min (dS g) 6=_;have:=AC g;omega
 refine fD (ah Nu (.slice (some ⟨b4,0,some 0⟩) (dS g) 6) (eP.take (dS g))) (λw h=>adn (h (bZ b4 0 CU) (dN _ (dJ ..))) (AC g)) ?_;refine IZ (Z:=Nat) (λ(xss:List (List Int)) (x:Int×(Int×Int))=>(xss.set x.1.toNat (lY g x),.normal)) (λxss=>[og (lF aa) bl xss,pt b2 (.cells [A7 bl g.cells.length])]) (λvs xss=>xss=vs.map (lY g)++List.replicate (g.cells.length - vs.length) []) (List.replicate g.cells.length []) _ (λx b10=>[pt b10 (.cells [.int .i64 x.2.1,.int .i64 x.2.2])]) (by simp) (λvs s x rest hs hX _=>by
  have h1:=Ji hX;rw[hs,h1.1];have:=TV (A:=vs.map (lY g)) (n:=g.cells.length) (by rw[dV];exact h1.2.1) (lY g x);rw[dV]at this;rw[ku,this,ed,gU];rfl) (Oo (b1:=bs2) (vh:=vh) (vc:=vc) hg) (by intro s x lo o B w0;refine go ?_;intro b8;refine go ?_;exact Fb b8 rfl) ?_ ?_ (λ_ _=>trivial)
 ·intro vs xss x rest b10 lo L B w0 hs hX;dsimp only[List.cons_append,List.nil_append];obtain⟨hc,hvl,hxm⟩:=Ji hX;have hbx:=hsb x hxm;obtain⟨c,s1,s2⟩:=x;dsimp only at hc hbx;subst hc;have hxk:xss[vs.length]? =some []:=by
   rw[hs,uZ (by simp),dV,BB,WW,if_pos (by omega)]
  have hxl:xss.length=g.cells.length:=by rw[hs];simp;omega
  refine go ?_;refine(gH rfl rfl (adq (m:=dS g) rfl rfl (AC g))).h ?_;refine go ?_;refine Ja (A:=og (lF aa) bl xss) (A':=og (lF aa) bl (xss.set vs.length (gu (fB (bE g)) (s1,s2) ((eP.take (dS g)).take 0)))) (congrArg (og (lF aa) bl) (by
   apply kP;intro i;rw[uj];by_cases hi:vs.length=i
   ·subst hi;rw[if_pos rfl,if_pos (by omega),hxk];rfl
   ·rw[if_neg hi])) ?_
  refine aR (λj=>dS g - j) (λj:Nat=>[(47,.int .i64 (j:Int))]) (λj=>[og (lF aa) bl (xss.set vs.length (gu (fB (bE g)) (s1,s2) ((eP.take (dS g)).take j)))]) (λ_=>[]) (λj=>j<=dS g) 0 (bJ _) (body:=?_);intro j hj;refine go ?_;refine ay rfl (λh2=>?_) (λh2=>?_)
  ·refine go ?_;obtain⟨dd,hd⟩:∃dd,(eP.take (dS g))[j]? =some dd:=⟨_,bN (by omega)⟩
   have hdb:=ado dd (Po (aP hd));have hdv:jv (jR CU (j*2)) 2=some [.int .i64 dd.1,.int .i64 dd.2]:=adp (j:=j) (d:=dd) (by rw[vw]at hd;split at hd;exact hd;cases hd)
   have hnr:=adm (fB (bE g)) (s1,s2) ((eP.take (dS g)).take j) dd;rw[<- bS hd]at hnr;have hnl:=Jg (fB (bE g)) (s1,s2) ((eP.take (dS g)).take j);have hjm:=AC g;rw[gL]at hnl;obtain⟨d1,d2⟩:=dd;dsimp only at hdb hdv hnr;refine(RY (o:=0) (j:=j*2) (cs:=CU) rfl rfl rfl (dN _ (dN _ (dJ ..))) hdv).h ?_;refine go ?_;intro b12;refine go ?_;refine(gH rfl rfl (Co (a:=s1) (b:=d1) rfl rfl (by omega) (by omega))).h ?_;refine go ?_;refine(gH rfl rfl (Co (a:=s2) (b:=d2) rfl rfl (by omega) (by omega))).h ?_;refine go ?_;refine Vn VF (s1+d1,s2+d2) (λv hv hm=>?_) (λhm=>?_)
   ·obtain⟨c,rfl,hc⟩:=TU _ _ hv;rw[hv]at hnr;refine go ?_;refine Ty (lF aa) (b:=bl) (xss:=xss.set vs.length (gu (fB (bE g)) (s1,s2) ((eP.take (dS g)).take j))) (k:=vs.length) (xs:=gu (fB (bE g)) (s1,s2) ((eP.take (dS g)).take j)) (by rw[uj,if_pos rfl,if_pos (by omega)]) (h:=λws v FQ hv2=>?_);rw[um]at FQ;refine TA aa v (gu (fB (bE g)) (s1,s2) ((eP.take (dS g)).take j)) (λhz=>?_);refine qG (o:=0+vs.length*1) (cs:=ws) v (by rw[fC,wy];exact hv2) ?_;refine go ?_;intro b43;refine go ?_;refine Tn (xs:=gu (fB (bE g)) (s1,s2) ((eP.take (dS g)).take j)) aa c () (by omega) (next:=λad=>?_);rw[show gu (fB (bE g)) (s1,s2) ((eP.take (dS g)).take j)++[c]=gu (fB (bE g)) (s1,s2) ((eP.take (dS g)).take (j+1))from hnr.symm];refine go ?_;refine pg (o:=0+vs.length*1) (cs:=ws) (v:=.slice ad ((gu (fB (bE g)) (s1,s2) ((eP.take (dS g)).take j)).length+1) ((gu (fB (bE g)) (s1,s2) ((eP.take (dS g)).take j)).length+1)) (cs':=ws.set vs.length (.slice ad ((gu (fB (bE g)) (s1,s2) ((eP.take (dS g)).take j)).length+1) ((gu (fB (bE g)) (s1,s2) ((eP.take (dS g)).take j)).length+1))) (by rw[fC,wy]) (by omega) ?_;refine TB aa (.slice ad ((gu (fB (bE g)) (s1,s2) ((eP.take (dS g)).take j)).length+1) ((gu (fB (bE g)) (s1,s2) ((eP.take (dS g)).take j)).length+1)) (gu (fB (bE g)) (s1,s2) ((eP.take (dS g)).take (j+1))) (λe=>by rw[hnr]at e;exact absurd e (by show¬(_++[c]=[]);simp)) ?_;refine Tz (lF aa) (b:=bl) (xss:=xss.set vs.length (gu (fB (bE g)) (s1,s2) ((eP.take (dS g)).take j))) (vs:=ws) (k:=vs.length) (xs:=gu (fB (bE g)) (s1,s2) ((eP.take (dS g)).take (j+1))) (by rw[um];exact FQ) (by rw[um];omega) (h:=?_);rw[List.set_set];refine go ?_;exact aD (j+1) (by omega) (by omega)
   ·rw[rQ hm]at hnr;refine go ?_;refine Ja (A:=og (lF aa) bl (xss.set vs.length (gu (fB (bE g)) (s1,s2) ((eP.take (dS g)).take j)))) (A':=og (lF aa) bl (xss.set vs.length (gu (fB (bE g)) (s1,s2) ((eP.take (dS g)).take (j+1))))) (congrArg (og (lF aa) bl) ((by rw[hnr];exact congrArg (xss.set vs.length) (gV _).symm))) ?_;exact aD (j+1) (by omega) (by omega)
  have hjl:j=dS g:=by omega
  subst hjl;refine Ja (A:=og (lF aa) bl (xss.set vs.length (gu (fB (bE g)) (s1,s2) ((eP.take (dS g)).take (dS g))))) (A':=og (lF aa) bl (xss.set vs.length (gu (fB (bE g)) (s1,s2) (eP.take (dS g))))) (congrArg (og (lF aa) bl) ((congrArg (λz=>xss.set vs.length (gu (fB (bE g)) (s1,s2) z)) (wB (Nat.le_of_eq hml))))) ?_;refine go ?_;refine Ty (lF aa) (b:=bl) (xss:=xss.set vs.length (gu (fB (bE g)) (s1,s2) (eP.take (dS g)))) (k:=vs.length) (xs:=gu (fB (bE g)) (s1,s2) (eP.take (dS g))) (by rw[uj,if_pos rfl,if_pos (by omega)]) (h:=λws v FQ hv2=>?_);rw[um]at FQ;refine TA aa v (gu (fB (bE g)) (s1,s2) (eP.take (dS g))) (λhz=>?_);refine qG (o:=0+vs.length*1) (cs:=ws) v (by rw[fC,wy];exact hv2) ?_;have hn6:=Jg (fB (bE g)) (s1,s2) (eP.take (dS g));rw[hml]at hn6;have hjm:=AC g;refine qi (E:=aa) (v:=v) (xs:=gu (fB (bE g)) (s1,s2) (eP.take (dS g))) λa hv=>?_;subst hv;refine aj (Oq (a:=a) (zs:=gu (fB (bE g)) (s1,s2) (eP.take (dS g))) rfl (by omega)) (next:=λ_ _=>?_);refine afF (b:=bl) (cs:=ws) (cs':=ws.set vs.length (.slice a (gu (fB (bE g)) (s1,s2) (eP.take (dS g))).length (gu (fB (bE g)) (s1,s2) (eP.take (dS g))).length)) (adr hv2).symm ?_;refine TB aa (.slice a (gu (fB (bE g)) (s1,s2) (eP.take (dS g))).length (gu (fB (bE g)) (s1,s2) (eP.take (dS g))).length) (dD (gu (fB (bE g)) (s1,s2) (eP.take (dS g)))) (λe=>hz (jQ.1 (by rw[<- Av,e];rfl))) ?_;refine Tz (lF aa) (b:=bl) (xss:=xss.set vs.length (gu (fB (bE g)) (s1,s2) (eP.take (dS g)))) (vs:=ws) (k:=vs.length) (xs:=dD (gu (fB (bE g)) (s1,s2) (eP.take (dS g)))) (by rw[um];exact FQ) (by rw[um];omega) (h:=?_);refine Ja (A:=og (lF aa) bl ((xss.set vs.length (gu (fB (bE g)) (s1,s2) (eP.take (dS g)))).set vs.length (dD (gu (fB (bE g)) (s1,s2) (eP.take (dS g)))))) (A':=og (lF aa) bl (xss.set ((vs.length:Int)).toNat (lY g ((vs.length:Int),s1,s2)))) (congrArg (og (lF aa) bl) ((by rw[List.set_set,ku];rfl))) ?_;refine go ?_;exact w9 () rfl trivial trivial
 intro r2 xs2 afI;subst afI;rw[JI (λ(xss:List (List Int)) (x:Int×(Int×Int))=>xss.set x.1.toNat (lY g x))];dsimp only[List.cons_append,List.nil_append];rw[show(bE g).foldl (λ(xss:List (List Int)) (x:Int×(Int×Int))=>xss.set x.1.toNat (lY g x)) (List.replicate g.cells.length [])=bO g from ads g];refine aW (ac7 (A:=lF aa) (E:=tH aa) (b:=bl) (xss:=bO g) (c:=(bO g).length) (λv=>v) rfl (λ_ _=>rfl) (λv xs=>ac8)) (h:=?_);rw[vP];refine go ?_;refine kJ (c:=(0:Int)=0) (f:=ah (tH aa) (.slice (some ⟨bl,0,some 0⟩) g.cells.length g.cells.length) (bO g)) (by simp) ?_;exact Al ⟨.slice (some ⟨bl,0,some 0⟩) g.cells.length g.cells.length,0⟩ (hv:=rfl) (hp:=⟨λ_=>hg,λ_=>rfl⟩)
