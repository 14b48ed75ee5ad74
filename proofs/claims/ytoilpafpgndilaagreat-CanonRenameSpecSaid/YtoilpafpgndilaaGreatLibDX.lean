/-
  Part LibDX.
-/
import Derived.Test.YtoilpafpgndilaaGreatShelf
import Derived.Test.YtoilpafpgndilaaGreatIdealOX
import Derived.Test.YtoilpafpgndilaaGreatLibCX
set_option linter.all false
set_option maxRecDepth 10000
namespace Go.Proofs.YtoilpafpgndilaaGreat
open Go.Ideal
noncomputable def Og:=uE Tryz.prog 126
theorem VE:mO Tryz.prog 126=some Og:=by kernel_rfl
theorem srt:MW Tryz.prog 126:=λblk off cap zs w h1 h2 h3=>Any.slices_Sort_int Tryz.lays189 blk off cap zs w h1 h2 h3
end Go.Proofs.YtoilpafpgndilaaGreat
set_option maxHeartbeats 4000000
namespace Go.Proofs.YtoilpafpgndilaaGreat
open Go.Ideal Kd
noncomputable def Oh:=uE Tryz.prog 52
theorem VF:mO Tryz.prog 52=some Oh:=by kernel_rfl
noncomputable def Oi:=uE Tryz.prog 208
theorem afw:mO Tryz.prog 208=some Oi:=by kernel_rfl
theorem afx{x:Int}:dD Tryz.prog 106 [.int .i64 x] [] (.bool false):=by
 refine aM _ (aP 106) λB w0=>?_;refine go ?_;refine ah () (hv:=?_) (hp:=trivial);rw[aR (λh=>h rfl)];rfl
theorem afy{x:Int}:dD Tryz.prog 346 [.int .i64 x] [] (.bool false):=by
 refine aM _ (aP 346) λB w0=>?_;refine go ?_;refine ah () (hv:=?_) (hp:=trivial);rw[aR (λh=>h rfl)];rfl
theorem afz{x y:Int}:dD Tryz.prog 251 [.int .i64 x,.int .i64 y] [] (.bool (decide (x<y))):=by
 refine aM _ (aP 251) λB w0=>?_;refine go ?_;refine ay (afx (x:=x)) (next:=λ_ _=>?_);refine go ?_;exact ah () (hv:=rfl) (hp:=trivial)
def Oj(xs:List Int)(z:Int)(y:Nat×Bool):Prop:=y.1<=xs.length/\(∀(j:Nat) x,j<y.1->xs[j]? =some x->x<z)/\(∀(j:Nat) x,y.1<=j->xs[j]? =some x->z<=x)/\(y.2=true↔xs[y.1]? =some z)
theorem Oj.mem{xs:List Int}{z:Int}{y:Nat×Bool}(h:Oj xs z y)(hs:xs.Pairwise (·<·)):y.2=true↔z∈xs:=by
 obtain⟨h1,h2,h3,h4⟩:=h;rw[h4];refine⟨λh=>aZ h,λh=>?_⟩;obtain⟨j,hj⟩:=uy.1 h;have hjl:=(bq.1 hj)
 rcases PT j y.1 with h5|h5|h5
 ·have:=h2 j z h5 hj;omega
 ·rw[<- h5];exact hj
 ·have hyl:y.1<xs.length:=by have:=hjl.1;omega
  have hy:xs[y.1]? =some xs[y.1]:=bP hyl;have h6:=h3 y.1 _ (bT _) hy;have h7:=wT.1 hs y.1 j hyl hjl.1 h5;rw[hjl.2]at h7;omega
theorem VG{v:Value}{xs:List Int}{z:Int}(hl:xs.length<4611686018427387904)(hs:xs.Pairwise (·<=·)):
 bA Tryz.prog (.func 307) [v,.int .i64 z] [] [] [ai ae v xs] (λy:Nat×Bool=>.tuple ⟨[.int .i64 (y.1:Int),.bool y.2]⟩) (λ_=>[]) (λ_=>[]) (Oj xs z):=by
 refine aM _ (aP 307) λB w0=>?_;refine go ?_;refine aU (λy:Nat×Nat=>y.2 - y.1) (λy=>[(7,.int .i64 (y.1:Int)),(8,.int .i64 (y.2:Int))]) (λ_=>[]) (λ_=>[]) (λy=>y.1<=y.2/\y.2<=xs.length/\(∀(j:Nat) x,j<y.1->xs[j]? =some x->x<z)/\(∀(j:Nat) x,y.2<=j->xs[j]? =some x->z<=x)) (0,xs.length) ⟨bR _,bT _,λj x hj=>by omega,λj x hj hx=>by have:=(bq.1 hx).1;omega⟩ (body:=?_);rintro⟨a,b⟩ ⟨hab,hb,hlo,hhi⟩;dsimp only at hab hb hlo hhi⊢;refine go ?_;refine aA rfl (λh1=>?_) (λh1=>?_)
 ·have LD:a<=(a+b)>>>1/\(a+b)>>>1<b:=by
   rw[Nat.shiftRight_eq_div_pow];omega
  generalize hm:(a+b)>>>1=m at LD;refine go ?_;rw[show(a:Int)+(b:Int)=((a+b:Nat):Int)by omega];refine(fA rfl rfl (CR (k:=.u64) (m:=((a+b:Nat):Int)) (by kernel_rfl:Tryz.prog.underlying 3=some (.int .i64)) (by kernel_rfl) rfl (adi (by omega)))).h ?_;refine(fA rfl rfl (adj (a:=a+b) (b:=1) rfl rfl (by omega))).h ?_;rw[hm];refine(fA rfl rfl (CR (k:=.i64) (m:=(m:Int)) (by kernel_rfl:Tryz.prog.underlying 180=some (.int .u64)) (by kernel_rfl) rfl (wrapN (by omega)))).h ?_;refine go ?_;intro _ _ x hx;refine go ?_;refine ay (afz (x:=x) (y:=z)) (next:=λ_ _=>?_);refine go ?_;have hle:∀(i j:Nat) u v,i<=j->xs[i]? =some u->xs[j]? =some v->u<=v:=by
   intro i j u v hij hu hv;by_cases e:i=j
   ·subst e;rw[hu]at hv;injection hv with hv;omega
   ·exact wT.1 hs i j (bq.1 hu).1 (bq.1 hv).1 (by omega)|>λh=>by
     rw[(bq.1 hu).2,(bq.1 hv).2]at h;exact h
  refine aA rfl (λh2=>?_) (λh2=>?_)
  ·refine go ?_;refine aN (m+1,b) (by show b - (m+1)<b - a;omega) ⟨by show m+1<=b;omega,hb,λj u hj hu=>?_,hhi⟩;have:=hle j m u x (by show j<=m;have:j<m+1:=hj;omega) hu hx;omega
  ·refine go ?_;refine aN (a,m) (by show m - a<b - a;omega) ⟨by show a<=m;omega,by show m<=_;omega,hlo,λj u hj hu=>?_⟩;have:=hle m j x u hj hx hu;omega
 have hba:b=a:=by omega
 subst hba;refine go ?_;refine gG (λh2=>?_) (λh2=>?_)
 ·have hn:xs[b]? =none:=fO (by omega);refine go ?_;exact ah (b,false) (hv:=rfl) (hp:=⟨by show b<=_;omega,hlo,hhi,by show false=true↔xs[b]? =some z;rw[hn];simp⟩)
 refine go ?_;intro _ _ x hx;refine go ?_;by_cases hxz:x=z
 ·subst hxz;rw[dK rfl];refine go ?_;exact ah (b,true) (hv:=rfl) (hp:=⟨by show b<=_;omega,hlo,hhi,by show true=true↔xs[b]? =some x;simp[hx]⟩)
 ·rw[aR hxz];refine go ?_;intro _ _ x2 hx2;refine go ?_;refine ay (afy (x:=x2)) (next:=λ_ _=>?_);refine go ?_;exact ah (b,false) (hv:=rfl) (hp:=⟨by show b<=_;omega,hlo,hhi,by show false=true↔xs[b]? =some z;rw[hx];simp[hxz]⟩)
theorem VH{v:Value}{aC:List (Int×ae.Y)}(hl:aC.length<=4096):bA Tryz.prog (.func 52) [v] [] [] [rT ae v aC] (λv':Value=>v') (λv'=>[ar ae v' aC]) (λ_=>[]) (λ_=>True):=by
 refine aM Oh VF λB w0=>?_;refine N8 (v:=v) (aC:=aC) ae (λe c ev=>?_) (λe i o f c ev=>?_) (λhne i o f c ev=>?_)
 ·subst e ev;refine go ?_;refine(fA rfl rfl (Fe (e:=3) (by kernel_rfl) rfl)).h ?_;refine go ?_;refine N9 ae ?_;exact ah (.slice none 0 0) (hv:=rfl) (hp:=trivial)
 ·subst e ev;refine go ?_;refine(fA rfl rfl (zb (e:=3) (by kernel_rfl) rfl)).h ?_;refine go ?_;intro b;refine go ?_;refine IY (b:=b) ?_;refine go ?_;refine tT (b:=b) (m:=0) (f:=0) ae (aC:=[]) rfl (.inl rfl) ?_ (hk:=az.here);exact ah (.slice (some ⟨b,0,some 0⟩) 0 0) (hv:=rfl) (hp:=trivial)
 ·subst ev;refine go ?_;refine(fA rfl rfl (zb (e:=3) (by kernel_rfl) rfl)).h ?_;refine go ?_;intro b;refine go ?_;refine IZ (b:=b) ae aC hne (by omega) (λb'=>?_);refine go ?_;refine tT (b:=b') (m:=aC.length) (f:=ae.n) ae (aC:=aC) rfl (.inr rfl) ?_ (hk:=az.here);exact ah (.slice (some ⟨b',0,some ae.n⟩) aC.length aC.length) (hv:=rfl) (hp:=trivial)
abbrev FH:List Value:=[.int .i64 0,.int .i64 0,.int .i64 0,.slice none 0 0,.slice none 0 0]
abbrev iO(g:bz)(vh vc:Value):List Value:=[.int .i64 g.shape,.int .i64 g.w,.int .i64 g.h,vh,vc]
abbrev jq(g:bz)(vh vc:Value):List aO:=[ai ae vh g.holes,ai ae vc g.cells]
structure Ol where
 ok:Bool
 vh:Value
 vc:Value
def wH(s w h:Int)(holes:List Int):bz:=⟨s,w,h,holes,mX w h holes⟩
abbrev mkV(s w h:Int)(holes:List Int)(y:Ol):Value:=.tuple ⟨[.agg ⟨cond y.ok (iO (wH s w h holes) y.vh y.vc) FH⟩,.int .i64 (cond y.ok 0 130)]⟩
abbrev pM(s w h:Int)(holes:List Int)(y:Ol):List aO:=cond y.ok (jq (wH s w h holes) y.vh y.vc) []
def yf(xs:List Int):Int:=xs.getLast?.getD (-1)
theorem VI(xs:List Int)(x:Int):yf (xs++[x])=x:=by simp[yf]
theorem afA{xs:List Int}(h:∀x∈xs,0<=x): -1<=yf xs:=by
 unfold yf;cases hx:xs.getLast? with
 |none=>simp
 |some x=>
  have:=h x (List.mem_of_getLast? hx);simp only[wQ];omega
theorem VJ{xs:List Int}(h:xs.Pairwise (·<·)){a:Int}(ha:a∈xs):a<=yf xs:=by
 unfold yf;cases hx:xs.getLast? with
 |none=>rw[List.getLast?_eq_none_iff]at hx;subst hx;cases ha
 |some x=>
  obtain⟨ys,rfl⟩:=List.getLast?_eq_some_iff.1 hx;simp only[wQ];rcases dX.1 ha with h1|h1
  ·have:=(Kq.1 h).2.2 a h1 x (bM.2 rfl);omega
  ·rw[bM.1 h1];exact Int.le_refl _
theorem afB{xs:List Int}{k:Nat}{x:Int}(h:xs.Pairwise (·<·))(hx:xs[k]? =some x)(h0:0<=x):yf (xs.take k)<x:=by
 unfold yf;cases hl:(xs.take k).getLast? with
 |none=>simp only[Option.getD_none];omega
 |some y=>
  simp only[wQ];have hy:=List.mem_of_getLast? hl;have hd:xs=xs.take k++x::xs.drop (k+1):=by
   conv=>lhs;rw[<- uq k xs]
   rw[oU (bq.1 hx).1,(bq.1 hx).2]
  rw[hd]at h;exact(Kq.1 h).2.2 y hy x (cB ..)
theorem Om{s w h:Int}{holes:List Int}{vh:Value}(hw64:kD w)(afC:kD h)(hl:holes.length<4611686018427387904):
 bA Tryz.prog (.func 208) [.int .i64 s,.int .i64 w,.int .i64 h,vh] [] [] [ai ae vh holes] (mkV s w h holes) (λ_=>[]) (pM s w h holes) (λy=>y.ok=true↔oH s w h holes):=by
 have bad:¬oH s w h holes->∀{B:List Nat} {w0:Wd} {kl:List OA} {F:List aO} {l:List (Nat×Value)} {n b:Nat} {bH:List OA},lk l 8=ptr' b->lk l 9=.int .i64 130->az (pt b (.cells FH)) kl bH->
  R (λh0=>Cs Oi (Go.Ideal.Left B w0 (mkV s w h holes) (λ_=>[]) (pM s w h holes) (λy=>y.ok=true↔oH s w h holes)) .ret (act n l [] none none) h0) B w0 kl F:=by
  intro hno B w0 kl F l n b bH h8 h9 hk;refine Sl (bH:=kl) ⟨false,.nilFunc,.nilFunc⟩ (vs:=[.agg ⟨FH⟩,.int .i64 130]) ?_ rfl ⟨(λe=>by cases e),λe=>absurd e hno⟩ .nil .nil (.inr rfl);show RS l kl [.qA 5 8,.tmp 9] _;exact .qA h8 hk rfl (.tmp h9 .nil)
 refine aM Oi afw λB w0=>?_;refine go ?_;intro b8;refine go ?_;by_cases hsh:s=1\/s=2
 rotate_left
 ·rw[dK (show s≠1 from λe=>hsh (.inl e))];refine go ?_;rw[dK (show s≠2 from λe=>hsh (.inr e))];refine go ?_;exact bad (λh=>hsh h.sh) rfl rfl .here
 have hmk:∀sh,(sh=1\/sh=2)->(oH sh w h holes↔oH s w h holes):=λsh e=>⟨λq=>⟨hsh,q.wi,q.he,q.len,q.inc,q.mem⟩,λq=>⟨e,q.wi,q.he,q.len,q.inc,q.mem⟩⟩
 have h22:∀{B:List Nat} {w0:Wd} {kl:List OA} {F:List aO} {K:KO} {ds:List Tmp} {rest:List bV} {n:Nat} {l:List (Nat×Value)} {D:List Deferred},
  R (λh0=>aH Tryz.prog ds rest (act n ((22,.bool false)::(21,.bool false)::l) D none none) h0 K) B w0 kl F->R (λh0=>aH Tryz.prog ds rest (act n ((22,.bool false)::(21,.bool false)::l) D none none) h0 K) B w0 kl F:=λh=>h
 rcases hsh with rfl|rfl;all_goals
  refine go ?_;refine gG (λa1=>?_) (λa1=>?_)
  rotate_left
  ·refine go ?_;exact bad (λq=>by have:=q.wi;omega) rfl rfl .here
  refine go ?_;refine gG (λa2=>?_) (λa2=>?_)
  rotate_left
  ·refine go ?_;exact bad (λq=>by have:=q.wi;omega) rfl rfl .here
  refine go ?_;refine gG (λa3=>?_) (λa3=>?_)
  rotate_left
  ·refine go ?_;exact bad (λq=>by have:=q.he;omega) rfl rfl .here
  refine go ?_;refine gG (λa4=>?_) (λa4=>?_)
  rotate_left
  ·refine go ?_;exact bad (λq=>by have:=q.he;omega) rfl rfl .here
  have hwh:=xQ (w:=w) (h:=h) ⟨by omega,by omega⟩ ⟨by omega,by omega⟩;refine go ?_;refine aA rfl (λa5=>?_) (λa5=>?_)
  ·refine go ?_;exact bad (λq=>by have:=q.len;omega) rfl rfl .here
  refine go ?_;refine aU (λk=>holes.length - k) (λk:Nat=>[(49,.int .i64 (k:Int)),(10,.int .i64 (yf (holes.take k)))]) (λ_=>[]) (λ_=>[]) (λk=>k<=holes.length/\(holes.take k).Pairwise (·<·)/\∀x∈holes.take k,0<=x/\x<w*h) 0 ⟨bR _,by simp,by simp⟩ (body:=?_);rintro k ⟨hk,l6,hmem⟩;refine go ?_;refine aA rfl (λa6=>?_) (λa6=>?_)
  ·refine go ?_;intro _ _ x hx;refine go ?_;have hxm:=aZ hx;refine gG (λa7=>?_) (λa7=>?_)
   rotate_left
   ·refine go ?_;exact bad (λq=>by
     have h1:=q.inc;have h2:=q.mem x hxm;have:=afB h1 hx h2.1;omega) rfl rfl .here
   refine go ?_;refine aA rfl (λa8=>?_) (λa8=>?_)
   ·refine go ?_;exact bad (λq=>by have:=q.mem x hxm;omega) rfl rfl .here
   refine go ?_;have htk:holes.take (k+1)=holes.take k++[x]:=by rw[nP,hx];rfl
   refine aN (k+1) (by omega) ⟨by omega,?_,?_⟩ (hl:=⟨rfl,by rw[htk,VI];rfl,by repeat (first|exact trivial|refine⟨rfl,?_⟩)⟩)
   ·rw[htk,Kq];refine⟨l6,by simp,λa ha b hb=>?_⟩;rw[bM.1 hb];have:=VJ l6 ha;omega
   ·rw[htk];intro z hz;rcases dX.1 hz with hz|hz
    ·exact hmem z hz
    ·rw[bM.1 hz];have:=afA (λy hy=>(hmem y hy).1);omega
  have hkl:k=holes.length:=by omega
  subst hkl;rw[bU]at l6 hmem;have hok:∀s',(s'=1\/s'=2)->oH s' w h holes:=λs' hs'=>⟨hs',⟨by omega,by omega⟩,⟨by omega,by omega⟩,by omega,l6,hmem⟩
  obtain⟨m,hm⟩:=jA (show 0<=w*h by omega);have FI:mX w h holes=gI m holes:=by
   unfold mX;rw[hm];rfl
  refine go ?_;refine IW ae vh (λxh hxh=>?_);have hxl:xh.length=holes.length:=by rw[<- hxh,bY]
  refine ay (VH (aC:=xh) (by omega)) (next:=λv1 _=>?_);refine IX (E:=ae) (v:=v1) (aC:=xh) ?_ (λw h p hp f hf=>by cases hf);rw[hxh];refine aS (E:=ae) (v:=v1) (xs:=holes) (by simp) λa1 c1 e1=>?_;subst e1;refine go ?_;rw[hm];refine gH ae ?_;refine aU (λy:Nat×Option Addr=>m - y.1) (λy=>[(75,.int .i64 (y.1:Int))]) (λy=>[pt b8 (.cells [.int .i64 _,.int .i64 w,.int .i64 h,.slice a1 holes.length c1,.slice y.2 (gI y.1 holes).length (gI y.1 holes).length]),ap ae (.slice y.2 (gI y.1 holes).length (gI y.1 holes).length) (gI y.1 holes)]) (λ_=>[]) (λy=>y.1<=m) (0,none) (bR _) (hk:=by repeat (first|exact aI.nil|(apply aI.cons;(focus (repeat (first|exact az.here|apply az.there)))))) (body:=?_);rintro⟨k,ad⟩ hk;dsimp only at hk⊢;have hcl:=CW k holes;refine go ?_;refine aA rfl (λa9=>?_) (λa9=>?_)
  ·refine go ?_;refine ay (VG (xs:=holes) (z:=(k:Int)) hl (l6.imp (λh=>Int.le_of_lt h))) (next:=λy hy=>?_);have hmm:=hy.mem l6;clear hy;obtain⟨n,b⟩:=y;dsimp only at hmm;refine go ?_;cases b with
   |true=>
    refine go ?_;have e1:gI (k+1) holes=gI k holes:=by rw[Jd,if_pos (hmm.1 rfl),gU]
    rw[<- e1];exact aN (k+1,ad) (by show m - (k+1)<m - k;omega) (by show k+1<=m;omega)
   |false=>
    have hnm:¬(k:Int)∈holes:=λh=>by have:=hmm.2 h;cases this
    have e1:gI k holes++[(k:Int)]=gI (k+1) holes:=by rw[Jd,if_neg hnm]
    have e2:(gI k holes).length+1=(gI (k+1) holes).length:=by rw[<- e1];simp
    refine go ?_;intro b89;refine go ?_;refine fB ae (xs:=gI k holes) (k:Int) () (by omega) λad'=>?_;rw[e1,e2];refine go ?_;exact aN (k+1,ad') (by show m - (k+1)<m - k;omega) (by show k+1<=m;omega)
  have hkm:k=m:=by omega
  subst hkm;refine go ?_;refine bn gz (A:=ap ae (.slice ad (gI k holes).length (gI k holes).length) (gI k holes)) (h:=?_);refine go ?_;refine ah ⟨true,.slice a1 holes.length c1,.slice ad (gI k holes).length (gI k holes).length⟩ (hv:=rfl) (hp:=⟨λ_=>hok _ (by first|exact .inl rfl|exact .inr rfl),λ_=>rfl⟩) (hF:=?_);show Sub [ai ae _ holes,ai ae _ (mX w h holes)] _;rw[FI];exact .cons (by simp) (.cons (by simp) .nil)
end Go.Proofs.YtoilpafpgndilaaGreat
namespace Go.Proofs.YtoilpafpgndilaaGreat
open Go.Ideal Kd
structure qP(g:bz):Prop where
 w:kD g.w
 h:kD g.h
 holes:g.holes.length<4611686018427387904
 cells:g.cells.length<4611686018427387904
theorem VK{g:bz}{vh vc:Value}(hS:qP g):
 bA Tryz.prog (.func 227) [.agg ⟨iO g vh vc⟩] [] [] (jq g vh vc) (λe:Int=>.int .i64 e) (λ_=>[]) (λ_=>[]) (λe=>e=0↔fE g):=by
 refine aM _ (aP 227) λB w0=>?_;refine go ?_;intro b1;refine go ?_;refine ay (Om (s:=g.shape) (w:=g.w) (h:=g.h) (holes:=g.holes) (vh:=vh) hS.w hS.h hS.holes) (next:=λy hy=>?_);obtain⟨ok,v1,v2⟩:=y;cases ok with
 |false=>
  have hno:¬oH g.shape g.w g.h g.holes:=λh=>by have:=hy.2 h;cases this
  dsimp only[mkV,pM,cond,List.nil_append];refine go ?_;intro b3;refine go ?_;exact ah 130 (hv:=rfl) (hp:=⟨(λh=>by cases h),λh=>absurd h.make hno⟩)
 |true=>
  have hmk:=hy.1 rfl;dsimp only[mkV,pM,cond,jq,wH,List.cons_append,List.nil_append];refine go ?_;intro b3;refine go ?_;refine ay (Bf (xs:=mX g.w g.h g.holes) (ys:=g.cells) (by
   have:=CW (g.w*g.h).toNat g.holes;have:=xQ hmk.wi hmk.he;unfold mX;omega)) (next:=λ_ _=>?_)
  refine go ?_;refine fq rfl (λh1=>?_) (λh1=>?_)
  ·refine go ?_;exact ah 130 (hv:=rfl) (hp:=⟨(λh=>by cases h),λh=>absurd h.cells.symm h1⟩)
  ·refine go ?_;exact ah 0 (hv:=rfl) (hp:=⟨λ_=>⟨hmk,h1.symm⟩,λ_=>rfl⟩)
abbrev afF(x:Int×(Int×Int)):List Value:=[.int .i64 x.1,AX x.2]
theorem Oo{b1:Nat}{g:bz}{vh vc:Value}(hg:fE g):y9 Tryz.prog afF (.func 347) [] [ptr' b1] [gY b1 0 (iO g vh vc),ai ae vc g.cells] (λxs=>xs=bB g):=by
 intro S inv ok step s0 Fb y1 y2 F' h0 hok hy;have hgl:=hg.len;have FJ:=hg.make.wi;rw[fV,fV,dY];refine aM _ (aP 347) λB w0=>?_;refine go ?_;refine aU (λy:Nat×S=>g.cells.length - y.1) (λy=>[(10,.int .i64 (y.1:Int))]) (λy=>inv y.2) (λ_=>[]) (λy=>y.1<=g.cells.length/\ok ((bB g).take y.1) y.2/\mD step y.2 ((bB g).drop y.1)=mD step s0 (bB g)) (0,s0) ⟨bR _,h0,rfl⟩ (body:=?_);rintro⟨k,s⟩ ⟨hk,hos,hrun⟩;dsimp only at hk hos hrun⊢;refine go ?_;refine aA rfl (λh1=>?_) (λh1=>?_)
 ·refine go ?_;intro _ _ x hx;have hxb:=hg.cell x (aZ hx);have hsp:=zg hx;have hd:(bB g).drop k=((k:Int),nM g x)::(bB g).drop (k+1):=by
   rw[oU (by rw[qK];omega)];congr 1;rw[bP (by rw[qK];omega)]at hsp;exact Option.some.inj hsp
  have hX:(bB g).take k++((k:Int),nM g x)::(bB g).drop (k+1)=bB g:=by rw[<- hd,uq]
  refine go ?_;refine(fA rfl rfl (AC (a:=x) (b:=g.w) rfl rfl (by omega))).h ?_;refine go ?_;have hq:0<=x.tdiv g.w/\x.tdiv g.w<=x:=by
   rw[uz hxb.1];exact⟨Ko hxb.1 (by omega),Int.ediv_le_self _ hxb.1⟩
  have hr:0<=x.tmod g.w/\x.tmod g.w<=x:=by
   rw[DJ hxb.1];refine⟨Int.emod_nonneg _ (by omega),?_⟩;have:=PS x g.w;have h3:0<=g.w*(x/g.w):=Int.mul_nonneg (by omega) (Ko hxb.1 (by omega));omega
  refine(fA rfl rfl (EN (a:=x) (b:=g.w) rfl rfl (by omega) (by omega) (by omega))).h ?_;refine go ?_;refine aA rfl (λh2=>?_) (λh2=>?_)
  ·have hso:nM g x=(x.tmod g.w - (x.tdiv g.w).tdiv 2,x.tdiv g.w):=by unfold nM;rw[if_pos h2]
   have hq2:0<=(x.tdiv g.w).tdiv 2/\(x.tdiv g.w).tdiv 2<=x.tdiv g.w:=by
    rw[uz hq.1];omega
   rw[hso]at hX hd;have Bi:=hy _ s _ _ hos hX;refine go ?_;refine(fA rfl rfl (EN (a:=x.tdiv g.w) (b:=2) rfl rfl (by omega) (by omega) (by omega))).h ?_;refine go ?_;refine ay Bi (next:=λ_ _=>?_);rw[hd,mD]at hrun;refine go ?_;cases hst:step s ((k:Int),_)with
   |mk s' b=>
    have hst:=hst;rw[hst]at hrun;cases b with
    |true=>
     refine go ?_;refine aN (k+1,s') (by show g.cells.length - (k+1)<g.cells.length - k;omega) ⟨by show k+1<=_;omega,?_,hrun⟩;have:=hok _ s _ _ hos hX (by rw[hst]);rw[hst]at this;rw[show(bB g).take (k+1)=(bB g).take k++[_]from by rw[nP,hsp];rfl];rw[hso];exact this
    |false=>
     refine go ?_;exact ah (bB g) (hv:=rfl) (hp:=rfl) (hk:=by rw[<- hrun];exact aI.all _)
  ·have hso:nM g x=(x.tmod g.w,x.tdiv g.w):=by unfold nM;rw[if_neg h2]
   rw[hso]at hX hd;have Bi:=hy _ s _ _ hos hX;refine go ?_;refine ay Bi (next:=λ_ _=>?_);rw[hd,mD]at hrun;refine go ?_;cases hst:step s ((k:Int),_)with
   |mk s' b=>
    have hst:=hst;rw[hst]at hrun;cases b with
    |true=>
     refine go ?_;refine aN (k+1,s') (by show g.cells.length - (k+1)<g.cells.length - k;omega) ⟨by show k+1<=_;omega,?_,hrun⟩;have:=hok _ s _ _ hos hX (by rw[hst]);rw[hst]at this;rw[show(bB g).take (k+1)=(bB g).take k++[_]from by rw[nP,hsp];rfl];rw[hso];exact this
    |false=>
     refine go ?_;exact ah (bB g) (hv:=rfl) (hp:=rfl) (hk:=by rw[<- hrun];exact aI.all _)
 have hkl:k=(bB g).length:=by rw[qK];omega
 rw[hkl,List.drop_length]at hrun;refine go ?_;exact ah (bB g) (hv:=rfl) (hp:=rfl) (hk:=by rw[<- hrun];exact aI.all _)
end Go.Proofs.YtoilpafpgndilaaGreat
namespace Go.Proofs.YtoilpafpgndilaaGreat
open Go.Ideal Kd
theorem VL:Au (pX Tryz.prog qC pY):=Cr _ _ _ (λf q h v h' hm=>by cases hm)
theorem afG(h:IH)(K:BR):(BV (pX Tryz.prog qC pY) 1000).call ⟨.func 129,[.int .u64 0],[],none⟩ h K=K (.ok (.int .i64 0)) none h:=by kernel_rfl
theorem afH:dD Tryz.prog 129 [.int .u64 0] [] (.int .i64 0):=λB w s=>by
 have h2:=afG w.h λr pm h'=> @decide (pm=none/\r=.ok (.int .i64 0)/\h'=w.h) (Classical.propDecidable _);have h1:=Hf VL (h2.trans (@dK _ (Classical.propDecidable _) ⟨rfl,rfl,rfl⟩));refine .vT _ h1 λr pm h' hg=>?_;obtain⟨rfl,rfl,rfl⟩:= @iI _ (Classical.propDecidable _) hg;exact⟨rfl,w,(),rfl,s,rfl,trivial⟩
theorem afI{a:Option Addr}{c:Nat}:dD Tryz.prog 245 [.slice a 0 c,.int .i64 0,.int .i64 0] [] (.tuple ⟨[]⟩):=by
 refine aM _ (aP 245) λB w0=>?_;refine go ?_;refine mR ?_;refine go ?_;exact ah () (hv:=rfl) (hp:=trivial)
theorem afJ{a:Option Addr}{c:Nat}:dD Tryz.prog 163 [.slice a 0 c,.int .i64 0,.int .i64 0,.int .i64 0] [] (.tuple ⟨[]⟩):=by
 refine aM _ (aP 163) λB w0=>?_;refine go ?_;refine mR ?_;refine go ?_;refine ay (afI (a:=a) (c:=c)) (next:=λ_ _=>?_);refine go ?_;exact ah () (hv:=rfl) (hp:=trivial)
theorem afK{a:Option Addr}{c:Nat}:dD Tryz.prog 126 [.slice a 0 c] [] (.tuple ⟨[]⟩):=by
 refine aM Og VE λB w0=>?_;refine go ?_;refine(fA rfl rfl (CR (k:=.u64) (m:=0) (by kernel_rfl:Tryz.prog.underlying 3=some (.int .i64)) (by kernel_rfl) rfl (by rfl))).h ?_;refine ay afH (next:=λ_ _=>?_);refine go ?_;refine ay (afJ (a:=a) (c:=c)) (next:=λ_ _=>?_);refine go ?_;exact ah () (hv:=rfl) (hp:=trivial)
theorem afL:∃fn body,Tryz.prog.funcs[126]? =some fn/\fn.body=some body/\fn.name≠ "runtime.NumGoroutine" :=by
 obtain⟨fn,h1,h2⟩:=VL.fn 126 Og VE;have h3:Tryz.prog.funcs[126]? =some fn:=h1;have h4:(fn.name== "runtime.NumGoroutine")=false:=by
  have e:(Tryz.prog.funcs[126]?).map (λf=>f.name== "runtime.NumGoroutine")=some false:=by kernel_rfl
  rw[h3]at e;exact Option.some.inj e
 have h5:fn.body.isSome=true:=by
  have e:(Tryz.prog.funcs[126]?).map (λf=>f.body.isSome)=some true:=by kernel_rfl
  rw[h3]at e;exact Option.some.inj e
 obtain⟨body,hb⟩:=Option.isSome_iff_exists.1 h5;exact⟨fn,body,h3,hb,by simpa using h4⟩
theorem Oq{a:Option Addr}{m:Nat}{zs:List Int}(hm:m=zs.length)(hl:zs.length<4611686018427387904):
 bA Tryz.prog (.func 126) [.slice a m m] [] [ap ae (.slice a m m) zs] [] (λ_:Unit=>.tuple ⟨[]⟩) (λ_=>[ap ae (.slice a m m) (bW zs)]) (λ_=>[]) (λ_=>True):=by
 subst hm;obtain⟨fn,body,h1,h2,h3⟩:=afL;by_cases hz:zs=[]
 ·subst hz;have e:bW []=[]:=by simp[bW]
  rw[e];intro B w s;obtain⟨S1,s1,back⟩:=s.pz (k1:=[]) (bH:=[ap ae (.slice a 0 0) []]) (F1:=[]) .nil .nil;refine .vT _ (afK (a:=a) (c:=0) S1 w s1) ?_;rintro r pm h' ⟨hp,w',y,e1,st,e2,_⟩;exact⟨hp,w',(),e1,back w' _ _ st,e2,trivial⟩
 ·exact ac6 srt h1 h2 h3 (BK.2 hz) hl
theorem VM:rR Tryz.prog 329 AX:=adm (e:=3) (by kernel_rfl) (by kernel_rfl) (by kernel_rfl) (λa b=>by kernel_rfl)
theorem Ot{g:bz}{vh vc:Value}:bA Tryz.prog (.func 308) [.agg ⟨iO g vh vc⟩] [] [] (jq g vh vc) (λb:Nat=>.func (.func 347) #[] #[ptr' b]) (λ_=>[]) (λb=>[gY b 0 (iO g vh vc),ai ae vc g.cells]) (λ_=>True):=by
 refine aM _ (aP 308) λB w0=>?_;refine go ?_;intro b1;refine go ?_;refine bn (eX (b:=b1)) (h:=?_);exact ah b1 (hv:=rfl) (hp:=trivial)
def jr(c:Prop)(f:aO):aO:=⟨λw=>c->f.p w,λa h e=>f.mono a (h e)⟩
theorem jE{B:List Nat}{w0:Wd}{kl:List OA}{F:List aO}{Q:IH->Prop}{c:Prop}{f:aO}(hc:¬c)(h:R Q B w0 kl (jr c f::F)):R Q B w0 kl F:=eF (jr c f) (λw _ e=>absurd e hc) h
theorem jP{B:List Nat}{w0:Wd}{kl:List OA}{F:List aO}{Q:IH->Prop}{c:Prop}{f:aO}(hf:f∈F)(h:R Q B w0 kl (jr c f::F)):R Q B w0 kl F:=eF (jr c f) (λw hw _=>hw f hf) h
structure Ou where
 v:Value
 e:Int
abbrev wI(y:Ou):Value:=.tuple ⟨[y.v,.int .i64 y.e]⟩
theorem JK{S α:Type}(f:S->α->S):∀(xs:List α) (s:S),pq (λs x=>(f s x,Out.normal)) s xs=(xs.foldl f s,.normal)
 |[],s=>rfl
 |x::xs,s=>by
  show pq (λs x=>(f s x,Out.normal)) (f s x) xs=_;rw[JK f xs];rfl
section
variable {P:Program} {B:List Nat} {w0:Wd} {kl kl':List OA} {F:List aO} {Q:IH->Prop}
theorem afM{b:Nat}{cs cs':List Value}(e:cs=cs')(h:R Q B w0 (pt b (.cells cs')::kl') F)(hk:az (pt b (.cells cs)) kl kl':=by exact gN):R Q B w0 kl F:=by
 subst e;exact λw s=>h w (s.gq hk)
theorem pO{α:Type}{E:Enc α}{v:Value}{xs:List α}(h:∀a,v=.slice a xs.length xs.length->R Q B w0 kl F)(hk:az (ap E v xs) kl kl':=by exact gN):R Q B w0 kl F:=λw s=>by
 obtain⟨S,⟨S1,S2,q,_⟩,_⟩:=(s.gq hk).own;obtain⟨a,e⟩:=Mx q;exact h a e w s
end
abbrev Bj(b n:Nat):Value:=.slice (some ⟨b,0,some 0⟩) n n
theorem VN{g:bz}{vh vc:Value}(hS:qP g):
 bA Tryz.prog (.func 209) [.agg ⟨iO g vh vc⟩] [] [] (jq g vh vc) wI (λ_=>[]) (λy=>[jr (y.e=0) (ai (tY ae) y.v (bJ g))]) (λy=>y.e=0↔fE g):=by
 refine MM _ (aP 209) λB w0=>?_;refine go ?_;intro b1 b2;refine go ?_;refine ay (VK (g:=g) hS) (next:=λe he=>?_);refine go ?_;refine aA rfl (λh1=>?_) (λh1=>?_)
 ·refine go ?_;refine jE (c:=(130:Int)=0) (f:=ai (tY ae) (.slice none 0 0) (bJ g)) (by omega) ?_;exact IJ ⟨.slice none 0 0,130⟩ (hv:=rfl) (hp:=⟨(λh=>by cases h),λh=>absurd (he.2 h) h1⟩)
 have hg:=he.1 (by omega);have hgl:=hg.len;have hsb:=Jg hg;have hsl:=qK g;refine go ?_;intro b4 b5;refine go ?_;refine SF (bH:=[pt b4 (.cells CY),pt b2 (.cells [.slice none 0 0]),pt b1 (.cells (iO g vh vc))]) [] (λ_:Unit=>[]) (λ_=>[pt b5 (.cells [.int .i64 (dV g:Int)])]) (λ_=>[]) (λ_=>True) (hx:=?_) (hy:=?_)
 ·refine aA rfl (λh2=>?_) (λh2=>?_)
  ·refine go ?_;rw[show(4:Int)=(dV g:Int)by unfold dV;rw[if_pos h2];rfl];exact IM () trivial
  ·refine go ?_;rw[show(6:Int)=(dV g:Int)by unfold dV;rw[if_neg h2];rfl];exact IM () trivial
 intro _ _;refine go ?_;refine y8 AX (λbm=>?_);refine go ?_;intro b6;refine go ?_;refine ay (Ot (g:=g) (vh:=vh) (vc:=vc)) (next:=λbs _=>?_);refine go ?_;refine IV (Z:=Nat) (λ(m:List ((Int×Int)×Value)) (x:Int×(Int×Int))=>(upd x.2 (.int .i64 x.1) m,.normal)) (λm=>[gP AX bm m,pt b6 (.cells [.map (some bm)])]) (λvs m=>m=fC vs) [] _ (λx b8=>[pt b8 (.cells [.int .i64 x.2.1,.int .i64 x.2.2])]) rfl (λvs s x rest hs _ _=>by rw[hs,Ng]) (Oo (b1:=bs) (vh:=vh) (vc:=vc) hg) (by intro s x lo o B w0;refine go ?_;intro b8;refine go ?_;exact IU b8 rfl) ?_ ?_ (λ_ _=>trivial)
 ·intro vs s x rest b8 lo L B w0 hs hX;dsimp only[List.cons_append,List.nil_append];refine go ?_;refine xN VM x.2 (v:=.int .i64 x.1) ?_;refine go ?_;exact EY () rfl trivial trivial
 intro r1 xs hxs;subst hxs;rw[JK (λ(m:List ((Int×Int)×Value)) (x:Int×(Int×Int))=>upd x.2 (.int .i64 x.1) m)];dsimp only[List.cons_append,List.nil_append];rw[show(bB g).foldl (λ(m:List ((Int×Int)×Value)) (x:Int×(Int×Int))=>upd x.2 (.int .i64 x.1) m) []=fC (bB g)from rfl];refine bn (CK (b:=bm)) (h:=?_);refine bn (eX (b:=b6)) (h:=?_);refine go ?_;refine IK g.cells.length ⟨by omega,by omega,by omega⟩ λbl=>?_;rw[show zeros [.slice none 0 0] g.cells.length=List.replicate g.cells.length (.slice none 0 0)from RN _ _];refine adw (lD ae) (x0:=([]:List Int)) (λw=>⟨.inl ⟨rfl,rfl,rfl⟩,λ_=>rfl⟩) (h:=?_);refine go ?_;refine ay (Ot (g:=g) (vh:=vh) (vc:=vc)) (next:=λbs2 _=>?_);refine go ?_;refine bn (eX (b:=b4)) (h:=?_);refine bn (eX (b:=b5)) (h:=?_);have hml:(eO.take (dV g)).length=dV g:=by rw[gT];show min (dV g) 6=_;have:=A8 g;omega
 refine eF (ai Nh (.slice (some ⟨b4,0,some 0⟩) (dV g) 6) (eO.take (dV g))) (λw h=>adN (h (gY b4 0 CY) (cO _ (cB ..))) (A8 g)) ?_;refine IV (Z:=Nat) (λ(xss:List (List Int)) (x:Int×(Int×Int))=>(xss.set x.1.toNat (lX g x),.normal)) (λxss=>[nY (lD ae) bl xss,pt b2 (.cells [Bj bl g.cells.length])]) (λvs xss=>xss=vs.map (lX g)++List.replicate (g.cells.length - vs.length) []) (List.replicate g.cells.length []) _ (λx b10=>[pt b10 (.cells [.int .i64 x.2.1,.int .i64 x.2.2])]) (by simp) (λvs s x rest hs hX _=>by
  have h1:=Jh hX;rw[hs,h1.1];have:=Ul (A:=vs.map (lX g)) (n:=g.cells.length) (by rw[bY];exact h1.2.1) (lX g x);rw[bY]at this;rw[kJ,this,fP,iH];rfl) (Oo (b1:=bs2) (vh:=vh) (vc:=vc) hg) (by intro s x lo o B w0;refine go ?_;intro b8;refine go ?_;exact IU b8 rfl) ?_ ?_ (λ_ _=>trivial)
 ·intro vs xss x rest b10 lo L B w0 hs hX;dsimp only[List.cons_append,List.nil_append];obtain⟨hc,hvl,hxm⟩:=Jh hX;have hbx:=hsb x hxm;obtain⟨c,s1,s2⟩:=x;dsimp only at hc hbx;subst hc;have hxk:xss[vs.length]? =some []:=by
   rw[hs,pR (by simp),bY,vK,PO,if_pos (by omega)]
  have hxl:xss.length=g.cells.length:=by rw[hs];simp;omega
  refine go ?_;refine(fA rfl rfl (adQ (m:=dV g) rfl rfl (A8 g))).h ?_;refine go ?_;refine I8 (A:=nY (lD ae) bl xss) (A':=nY (lD ae) bl (xss.set vs.length (gu (fC (bB g)) (s1,s2) ((eO.take (dV g)).take 0)))) (congrArg (nY (lD ae) bl) (by
   apply iY;intro i;rw[oQ];by_cases hi:vs.length=i
   ·subst hi;rw[if_pos rfl,if_pos (by omega),hxk];rfl
   ·rw[if_neg hi])) ?_
  refine aU (λj=>dV g - j) (λj:Nat=>[(47,.int .i64 (j:Int))]) (λj=>[nY (lD ae) bl (xss.set vs.length (gu (fC (bB g)) (s1,s2) ((eO.take (dV g)).take j)))]) (λ_=>[]) (λj=>j<=dV g) 0 (bR _) (body:=?_);intro j hj;refine go ?_;refine aA rfl (λh2=>?_) (λh2=>?_)
  ·refine go ?_;obtain⟨dd,hd⟩:∃dd,(eO.take (dV g))[j]? =some dd:=⟨_,bP (by omega)⟩
   have hdb:=adO dd (BJ (aZ hd));have hdv:jf (jH CY (j*2)) 2=some [.int .i64 dd.1,.int .i64 dd.2]:=adP (j:=j) (d:=dd) (by rw[sK]at hd;split at hd;exact hd;cases hd)
   have hnr:=adM (fC (bB g)) (s1,s2) ((eO.take (dV g)).take j) dd;rw[<- bZ hd]at hnr;have hnl:=Jf (fC (bB g)) (s1,s2) ((eO.take (dV g)).take j);have hjm:=A8 g;rw[gT]at hnl;obtain⟨d1,d2⟩:=dd;dsimp only at hdb hdv hnr;refine(Sa (o:=0) (j:=j*2) (cs:=CY) rfl rfl rfl (cO _ (cO _ (cB ..))) hdv).h ?_;refine go ?_;intro b12;refine go ?_;refine(fA rfl rfl (Cw (a:=s1) (b:=d1) rfl rfl (by omega) (by omega))).h ?_;refine go ?_;refine(fA rfl rfl (Cw (a:=s2) (b:=d2) rfl rfl (by omega) (by omega))).h ?_;refine go ?_;refine Vu VM (s1+d1,s2+d2) (λv hv hm=>?_) (λhm=>?_)
   ·obtain⟨c,rfl,hc⟩:=Uk _ _ hv;rw[hv]at hnr;refine go ?_;refine TK (lD ae) (b:=bl) (xss:=xss.set vs.length (gu (fC (bB g)) (s1,s2) ((eO.take (dV g)).take j))) (k:=vs.length) (xs:=gu (fC (bB g)) (s1,s2) ((eO.take (dV g)).take j)) (by rw[oQ,if_pos rfl,if_pos (by omega)]) (h:=λws v FK hv2=>?_);rw[pV]at FK;refine TM ae v (gu (fC (bB g)) (s1,s2) ((eO.take (dV g)).take j)) (λhz=>?_);refine qh (o:=0+vs.length*1) (cs:=ws) v (by rw[fo,uw];exact hv2) ?_;refine go ?_;intro b43;refine go ?_;refine TC (xs:=gu (fC (bB g)) (s1,s2) ((eO.take (dV g)).take j)) ae c () (by omega) (next:=λad=>?_);rw[show gu (fC (bB g)) (s1,s2) ((eO.take (dV g)).take j)++[c]=gu (fC (bB g)) (s1,s2) ((eO.take (dV g)).take (j+1))from hnr.symm];refine go ?_;refine qI (o:=0+vs.length*1) (cs:=ws) (v:=.slice ad ((gu (fC (bB g)) (s1,s2) ((eO.take (dV g)).take j)).length+1) ((gu (fC (bB g)) (s1,s2) ((eO.take (dV g)).take j)).length+1)) (cs':=ws.set vs.length (.slice ad ((gu (fC (bB g)) (s1,s2) ((eO.take (dV g)).take j)).length+1) ((gu (fC (bB g)) (s1,s2) ((eO.take (dV g)).take j)).length+1))) (by rw[fo,uw]) (by omega) ?_;refine TN ae (.slice ad ((gu (fC (bB g)) (s1,s2) ((eO.take (dV g)).take j)).length+1) ((gu (fC (bB g)) (s1,s2) ((eO.take (dV g)).take j)).length+1)) (gu (fC (bB g)) (s1,s2) ((eO.take (dV g)).take (j+1))) (λe=>by rw[hnr]at e;exact absurd e (by show¬(_++[c]=[]);simp)) ?_;refine TL (lD ae) (b:=bl) (xss:=xss.set vs.length (gu (fC (bB g)) (s1,s2) ((eO.take (dV g)).take j))) (vs:=ws) (k:=vs.length) (xs:=gu (fC (bB g)) (s1,s2) ((eO.take (dV g)).take (j+1))) (by rw[pV];exact FK) (by rw[pV];omega) (h:=?_);rw[List.set_set];refine go ?_;exact aN (j+1) (by omega) (by omega)
   ·rw[rU hm]at hnr;refine go ?_;refine I8 (A:=nY (lD ae) bl (xss.set vs.length (gu (fC (bB g)) (s1,s2) ((eO.take (dV g)).take j)))) (A':=nY (lD ae) bl (xss.set vs.length (gu (fC (bB g)) (s1,s2) ((eO.take (dV g)).take (j+1))))) (congrArg (nY (lD ae) bl) ((by rw[hnr];exact congrArg (xss.set vs.length) (gU _).symm))) ?_;exact aN (j+1) (by omega) (by omega)
  have hjl:j=dV g:=by omega
  subst hjl;refine I8 (A:=nY (lD ae) bl (xss.set vs.length (gu (fC (bB g)) (s1,s2) ((eO.take (dV g)).take (dV g))))) (A':=nY (lD ae) bl (xss.set vs.length (gu (fC (bB g)) (s1,s2) (eO.take (dV g))))) (congrArg (nY (lD ae) bl) ((congrArg (λz=>xss.set vs.length (gu (fC (bB g)) (s1,s2) z)) (ry (Nat.le_of_eq hml))))) ?_;refine go ?_;refine TK (lD ae) (b:=bl) (xss:=xss.set vs.length (gu (fC (bB g)) (s1,s2) (eO.take (dV g)))) (k:=vs.length) (xs:=gu (fC (bB g)) (s1,s2) (eO.take (dV g))) (by rw[oQ,if_pos rfl,if_pos (by omega)]) (h:=λws v FK hv2=>?_);rw[pV]at FK;refine TM ae v (gu (fC (bB g)) (s1,s2) (eO.take (dV g))) (λhz=>?_);refine qh (o:=0+vs.length*1) (cs:=ws) v (by rw[fo,uw];exact hv2) ?_;have hn6:=Jf (fC (bB g)) (s1,s2) (eO.take (dV g));rw[hml]at hn6;have hjm:=A8 g;refine pO (E:=ae) (v:=v) (xs:=gu (fC (bB g)) (s1,s2) (eO.take (dV g))) λa hv=>?_;subst hv;refine ay (Oq (a:=a) (zs:=gu (fC (bB g)) (s1,s2) (eO.take (dV g))) rfl (by omega)) (next:=λ_ _=>?_);refine afM (b:=bl) (cs:=ws) (cs':=ws.set vs.length (.slice a (gu (fC (bB g)) (s1,s2) (eO.take (dV g))).length (gu (fC (bB g)) (s1,s2) (eO.take (dV g))).length)) (adR hv2).symm ?_;refine TN ae (.slice a (gu (fC (bB g)) (s1,s2) (eO.take (dV g))).length (gu (fC (bB g)) (s1,s2) (eO.take (dV g))).length) (bW (gu (fC (bB g)) (s1,s2) (eO.take (dV g)))) (λe=>hz (jy.1 (by rw[<- AV,e];rfl))) ?_;refine TL (lD ae) (b:=bl) (xss:=xss.set vs.length (gu (fC (bB g)) (s1,s2) (eO.take (dV g)))) (vs:=ws) (k:=vs.length) (xs:=bW (gu (fC (bB g)) (s1,s2) (eO.take (dV g)))) (by rw[pV];exact FK) (by rw[pV];omega) (h:=?_);refine I8 (A:=nY (lD ae) bl ((xss.set vs.length (gu (fC (bB g)) (s1,s2) (eO.take (dV g)))).set vs.length (bW (gu (fC (bB g)) (s1,s2) (eO.take (dV g)))))) (A':=nY (lD ae) bl (xss.set ((vs.length:Int)).toNat (lX g ((vs.length:Int),s1,s2)))) (congrArg (nY (lD ae) bl) ((by rw[List.set_set,kJ];rfl))) ?_;refine go ?_;exact EY () rfl trivial trivial
 intro r2 xs2 afP;subst afP;rw[JK (λ(xss:List (List Int)) (x:Int×(Int×Int))=>xss.set x.1.toNat (lX g x))];dsimp only[List.cons_append,List.nil_append];rw[show(bB g).foldl (λ(xss:List (List Int)) (x:Int×(Int×Int))=>xss.set x.1.toNat (lX g x)) (List.replicate g.cells.length [])=bJ g from adS g];refine bn (adx (A:=lD ae) (E:=tY ae) (b:=bl) (xss:=bJ g) (c:=(bJ g).length) (λv=>v) rfl (λ_ _=>rfl) (λv xs=>ady)) (h:=?_);rw[wm];refine go ?_;refine jP (c:=(0:Int)=0) (f:=ai (tY ae) (.slice (some ⟨bl,0,some 0⟩) g.cells.length g.cells.length) (bJ g)) (by simp) ?_;exact IJ ⟨.slice (some ⟨bl,0,some 0⟩) g.cells.length g.cells.length,0⟩ (hv:=rfl) (hp:=⟨λ_=>hg,λ_=>rfl⟩)
end Go.Proofs.YtoilpafpgndilaaGreat
namespace Go.Proofs.YtoilpafpgndilaaGreat
open Go.Ideal Kd
def jv(n:Nat)(xs:List Int):List Value:=(List.range n).map λj:Nat=>.bool (decide ((j:Int)∈xs))
theorem JL(n:Nat)(xs:List Int):(jv n xs).length=n:=by unfold jv;rw[bY,uu]
theorem VO{n:Nat}{xs:List Int}{j:Nat}(hj:j<n):(jv n xs)[0+j*1]? =some (.bool (decide ((j:Int)∈xs))):=by
 rw[fo,uw];unfold jv;rw[dm,pU hj];rfl
theorem afQ{n:Nat}{xs:List Int}{j:Nat}(hj:j<n):(jv n xs).set (0+j*1) (.bool true)=jv n (xs++[(j:Int)]):=by
 rw[fo,uw];apply iY;intro i;rw[oQ,JL];unfold jv;by_cases hi:i<n
 ·rw[dm,pU hi,dm,pU hi];by_cases e:j=i
  ·subst e;simp[hj]
  ·have e2:¬(i:Int)=(j:Int):=by omega
   simp[e,e2]
 ·rw[fO (by rw[bY,uu];omega),fO (by rw[bY,uu];omega)];by_cases e:j=i
  ·rw[if_pos e,if_neg (by omega)]
  ·rw[if_neg e]
theorem VP(n:Nat):zeros [.bool false] n=jv n []:=by
 have h:zeros [.bool false] n=List.replicate n (.bool false):=by
  induction n with
  |zero=>rfl
  |succ n ih=>rw[Gg,<- ih];rfl
 rw[h];unfold jv;apply iY;intro i;rw[dm,PO];by_cases hi:i<n
 ·rw[pU hi,if_pos hi];simp
 ·rw[fO (by rw[uu];omega),if_neg hi];rfl
theorem VQ{b:Nat}{x:Int}:rH (pt b (.cells [.int .i64 x])) [ai ae (.slice (some ⟨b,0,some 0⟩) 1 1) [x]]:=uR (xs:=[x])
