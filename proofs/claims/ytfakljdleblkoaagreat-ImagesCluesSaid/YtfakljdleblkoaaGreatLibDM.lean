/-
  The library's sort of numbers, by the contract of the kit's shelf.
-/
import Derived.Test.YtfakljdleblkoaaGreatShelf
import Derived.Test.YtfakljdleblkoaaGreatIdealOM
import Derived.Test.YtfakljdleblkoaaGreatLibCM
set_option linter.all false
set_option maxRecDepth 10000
namespace Go.Proofs.YtfakljdleblkoaaGreat
open Go.Ideal
noncomputable def PO:=qJ Tryz.prog 145
theorem XR:lT Tryz.prog 145=some PO:=by kernel_rfl
theorem srt:Og Tryz.prog 145:=λblk off cap zs w h1 h2 h3=>Any.slices_Sort_int Tryz.lays189 blk off cap zs w h1 h2 h3
end Go.Proofs.YtfakljdleblkoaaGreat
set_option maxHeartbeats 4000000
namespace Go.Proofs.YtfakljdleblkoaaGreat
open Go.Ideal Kd
noncomputable def KM:=qJ Tryz.prog 44
theorem PP:lT Tryz.prog 44=some KM:=by kernel_rfl
noncomputable def PR:=qJ Tryz.prog 174
theorem aie:lT Tryz.prog 174=some PR:=by kernel_rfl
theorem aif{x:Int}:eG Tryz.prog 202 [.int .i64 x] [] (.bool false):=by
 refine aK _ (aM 202) λB w0=>?_;refine go ?_;refine aj () (hv:=?_) (hp:=trivial);rw[dM (λh=>h rfl)];rfl
theorem aih{x:Int}:eG Tryz.prog 301 [.int .i64 x] [] (.bool false):=by
 refine aK _ (aM 301) λB w0=>?_;refine go ?_;refine aj () (hv:=?_) (hp:=trivial);rw[dM (λh=>h rfl)];rfl
theorem aii{x y:Int}:eG Tryz.prog 281 [.int .i64 x,.int .i64 y] [] (.bool (decide (x<y))):=by
 refine aK _ (aM 281) λB w0=>?_;refine go ?_;refine ak (aif (x:=x)) (next:=λ_ _=>?_);refine go ?_;exact aj () (hv:=rfl) (hp:=trivial)
def PS(xs:List Int)(z:Int)(y:Nat×Bool):Prop:=y.1<=xs.length/\(∀(j:Nat) x,j<y.1->xs[j]? =some x->x<z)/\(∀(j:Nat) x,y.1<=j->xs[j]? =some x->z<=x)/\(y.2=true↔xs[y.1]? =some z)
theorem PS.mem{xs:List Int}{z:Int}{y:Nat×Bool}(h:PS xs z y)(hs:xs.Pairwise (·<·)):y.2=true↔z∈xs:=by
 obtain⟨h1,h2,h3,h4⟩:=h;rw[h4];refine⟨λh=>aR h,λh=>?_⟩;obtain⟨j,hj⟩:=wZ.1 h;have hjl:=(aW.1 hj)
 rcases Nat.lt_trichotomy j y.1 with h5|h5|h5
 ·have:=h2 j z h5 hj;omega
 ·rw[<- h5];exact hj
 ·have hyl:y.1<xs.length:=by have:=hjl.1;omega
  have hy:xs[y.1]? =some xs[y.1]:=bC hyl;have h6:=h3 y.1 _ (bB _) hy;have h7:=yV.1 hs y.1 j hyl hjl.1 h5;rw[hjl.2]at h7;omega
theorem XT{v:Value}{xs:List Int}{z:Int}(hl:xs.length<4611686018427387904)(hs:xs.Pairwise (·<=·)):
 aQ Tryz.prog (.func 258) [v,.int .i64 z] [] [] [ah ae v xs] (λy:Nat×Bool=>.tuple ⟨[.int .i64 (y.1:Int),.bool y.2]⟩) (λ_=>[]) (λ_=>[]) (PS xs z):=by
 refine aK _ (aM 258) λB w0=>?_;refine go ?_;refine bQ (λy:Nat×Nat=>y.2 - y.1) (λy=>[(7,.int .i64 (y.1:Int)),(8,.int .i64 (y.2:Int))]) (λ_=>[]) (λ_=>[]) (λy=>y.1<=y.2/\y.2<=xs.length/\(∀(j:Nat) x,j<y.1->xs[j]? =some x->x<z)/\(∀(j:Nat) x,y.2<=j->xs[j]? =some x->z<=x)) (0,xs.length) ⟨dK _,bB _,λj x hj=>by omega,λj x hj hx=>by have:=(aW.1 hx).1;omega⟩ (body:=?_);rintro⟨a,b⟩ ⟨hab,hb,hlo,hhi⟩;dsimp only at hab hb hlo hhi⊢;refine go ?_;refine aJ rfl (λh1=>?_) (λh1=>?_)
 ·have Fe:a<=(a+b)>>>1/\(a+b)>>>1<b:=by
   rw[Rt];omega
  generalize hm:(a+b)>>>1=m at Fe;refine go ?_;rw[show(a:Int)+(b:Int)=((a+b:Nat):Int)by omega];refine(fF rfl rfl (Om (k:=.u64) (m:=((a+b:Nat):Int)) (by kernel_rfl:Tryz.prog.underlying 3=some (.int .i64)) (by kernel_rfl) rfl (ae9 (by omega)))).h ?_;refine(fF rfl rfl (afa (a:=a+b) (b:=1) rfl rfl (by omega))).h ?_;rw[hm];refine(fF rfl rfl (Om (k:=.i64) (m:=(m:Int)) (by kernel_rfl:Tryz.prog.underlying 167=some (.int .u64)) (by kernel_rfl) rfl (wrapN (by omega)))).h ?_;refine go ?_;intro _ _ x hx;refine go ?_;refine ak (aii (x:=x) (y:=z)) (next:=λ_ _=>?_);refine go ?_;have hle:∀(i j:Nat) u v,i<=j->xs[i]? =some u->xs[j]? =some v->u<=v:=by
   intro i j u v hij hu hv;by_cases e:i=j
   ·subst e;rw[hu]at hv;injection hv with hv;omega
   ·exact yV.1 hs i j (aW.1 hu).1 (aW.1 hv).1 (by omega)|>λh=>by
     rw[(aW.1 hu).2,(aW.1 hv).2]at h;exact h
  refine aJ rfl (λh2=>?_) (λh2=>?_)
  ·refine go ?_;refine bi (m+1,b) (by show b - (m+1)<b - a;omega) ⟨by show m+1<=b;omega,hb,λj u hj hu=>?_,hhi⟩;have:=hle j m u x (by show j<=m;have:j<m+1:=hj;omega) hu hx;omega
  ·refine go ?_;refine bi (a,m) (by show m - a<b - a;omega) ⟨by show a<=m;omega,by show m<=_;omega,hlo,λj u hj hu=>?_⟩;have:=hle m j x u hj hx hu;omega
 have hba:b=a:=by omega
 subst hba;refine go ?_;refine gG (λh2=>?_) (λh2=>?_)
 ·have hn:xs[b]? =none:=fu (by omega);refine go ?_;exact aj (b,false) (hv:=rfl) (hp:=⟨by show b<=_;omega,hlo,hhi,by show false=true↔xs[b]? =some z;rw[hn];simp⟩)
 refine go ?_;intro _ _ x hx;refine go ?_;by_cases hxz:x=z
 ·subst hxz;rw[fQ rfl];refine go ?_;exact aj (b,true) (hv:=rfl) (hp:=⟨by show b<=_;omega,hlo,hhi,by show true=true↔xs[b]? =some x;simp[hx]⟩)
 ·rw[dM hxz];refine go ?_;intro _ _ x2 hx2;refine go ?_;refine ak (aih (x:=x2)) (next:=λ_ _=>?_);refine go ?_;exact aj (b,false) (hv:=rfl) (hp:=⟨by show b<=_;omega,hlo,hhi,by show false=true↔xs[b]? =some z;rw[hx];simp[hxz]⟩)
theorem XU{v:Value}{ay:List (Int×ae.Y)}(hl:ay.length<=4096):aQ Tryz.prog (.func 44) [v] [] [] [rZ ae v ay] (λv':Value=>v') (λv'=>[ar ae v' ay]) (λ_=>[]) (λ_=>True):=by
 refine aK KM PP λB w0=>?_;refine PK (v:=v) (ay:=ay) ae (λe c ev=>?_) (λe i o f c ev=>?_) (λhne i o f c ev=>?_)
 ·subst e ev;refine go ?_;refine(fF rfl rfl (Dk (e:=3) (by kernel_rfl) rfl)).h ?_;refine go ?_;refine PL ae ?_;exact aj (.slice none 0 0) (hv:=rfl) (hp:=trivial)
 ·subst e ev;refine go ?_;refine(fF rfl rfl (wG (e:=3) (by kernel_rfl) rfl)).h ?_;refine go ?_;intro b;refine go ?_;refine FT (b:=b) ?_;refine go ?_;refine ug (b:=b) (m:=0) (f:=0) ae (ay:=[]) rfl (.inl rfl) ?_ (hk:=az.here);exact aj (.slice (some ⟨b,0,some 0⟩) 0 0) (hv:=rfl) (hp:=trivial)
 ·subst ev;refine go ?_;refine(fF rfl rfl (wG (e:=3) (by kernel_rfl) rfl)).h ?_;refine go ?_;intro b;refine go ?_;refine FU (b:=b) ae ay hne (by omega) (λb'=>?_);refine go ?_;refine ug (b:=b') (m:=ay.length) (f:=ae.n) ae (ay:=ay) rfl (.inr rfl) ?_ (hk:=az.here);exact aj (.slice (some ⟨b',0,some ae.n⟩) ay.length ay.length) (hv:=rfl) (hp:=trivial)
abbrev Gf:List Value:=[.int .i64 0,.int .i64 0,.int .i64 0,.slice none 0 0,.slice none 0 0]
abbrev oV(g:cO)(vh vc:Value):List Value:=[.int .i64 g.shape,.int .i64 g.w,.int .i64 g.h,vh,vc]
abbrev sG(g:cO)(vh vc:Value):List aD:=[ah ae vh g.holes,ah ae vc g.cells]
structure PT where
 ok:Bool
 vh:Value
 vc:Value
def BC(s w h:Int)(holes:List Int):cO:=⟨s,w,h,holes,qU w h holes⟩
abbrev mkV(s w h:Int)(holes:List Int)(y:PT):Value:=.tuple ⟨[.agg ⟨cond y.ok (oV (BC s w h holes) y.vh y.vc) Gf⟩,.int .i64 (cond y.ok 0 130)]⟩
abbrev wO(s w h:Int)(holes:List Int)(y:PT):List aD:=cond y.ok (sG (BC s w h holes) y.vh y.vc) []
def yB(xs:List Int):Int:=xs.getLast?.getD (-1)
theorem aij(xs:List Int)(x:Int):yB (xs++[x])=x:=by simp[yB]
theorem aik{xs:List Int}(h:∀x∈xs,0<=x): -1<=yB xs:=by
 unfold yB;cases hx:xs.getLast? with
 |none=>simp
 |some x=>
  have:=h x (List.mem_of_getLast? hx);simp only[wX];omega
theorem ail{xs:List Int}(h:xs.Pairwise (·<·)){a:Int}(ha:a∈xs):a<=yB xs:=by
 unfold yB;cases hx:xs.getLast? with
 |none=>rw[List.getLast?_eq_none_iff]at hx;subst hx;cases ha
 |some x=>
  obtain⟨ys,rfl⟩:=List.getLast?_eq_some_iff.1 hx;simp only[wX];rcases gH.1 ha with h1|h1
  ·have:=(GQ.1 h).2.2 a h1 x (bO.2 rfl);omega
  ·rw[bO.1 h1];exact Int.le_refl _
theorem aim{xs:List Int}{k:Nat}{x:Int}(h:xs.Pairwise (·<·))(hx:xs[k]? =some x)(h0:0<=x):yB (xs.take k)<x:=by
 unfold yB;cases hl:(xs.take k).getLast? with
 |none=>simp only[Option.getD_none];omega
 |some y=>
  simp only[wX];have hy:=List.mem_of_getLast? hl;have hd:xs=xs.take k++x::xs.drop (k+1):=by
   conv=>lhs;rw[<- mM k xs]
   rw[nJ (aW.1 hx).1,(aW.1 hx).2]
  rw[hd]at h;exact(GQ.1 h).2.2 y hy x (bR ..)
theorem PU{s w h:Int}{holes:List Int}{vh:Value}(hw64:lD w)(am9:lD h)(hl:holes.length<4611686018427387904):
 aQ Tryz.prog (.func 174) [.int .i64 s,.int .i64 w,.int .i64 h,vh] [] [] [ah ae vh holes] (mkV s w h holes) (λ_=>[]) (wO s w h holes) (λy=>y.ok=true↔su s w h holes):=by
 have bad:¬su s w h holes->∀{B:List Nat} {w0:Wd} {kl:List OA} {F:List aD} {l:List (Nat×Value)} {n b:Nat} {aT:List OA},lk l 8=ptr' b->lk l 9=.int .i64 130->az (pt b (.cells Gf)) kl aT->
  R (λh0=>CR PR (Go.Ideal.Left B w0 (mkV s w h holes) (λ_=>[]) (wO s w h holes) (λy=>y.ok=true↔su s w h holes)) .ret (act n l [] none none) h0) B w0 kl F:=by
  intro hno B w0 kl F l n b aT h8 h9 hk;refine UC (aT:=kl) ⟨false,.nilFunc,.nilFunc⟩ (vs:=[.agg ⟨Gf⟩,.int .i64 130]) ?_ rfl ⟨(λe=>by cases e),λe=>absurd e hno⟩ .nil .nil (.inr rfl);show RS l kl [.nN 5 8,.tmp 9] _;exact .nN h8 hk rfl (.tmp h9 .nil)
 refine aK PR aie λB w0=>?_;refine go ?_;intro b8;refine go ?_;by_cases hsh:s=1\/s=2
 rotate_left
 ·rw[fQ (show s≠1 from λe=>hsh (.inl e))];refine go ?_;rw[fQ (show s≠2 from λe=>hsh (.inr e))];refine go ?_;exact bad (λh=>hsh h.sh) rfl rfl .here
 have hmk:∀sh,(sh=1\/sh=2)->(su sh w h holes↔su s w h holes):=λsh e=>⟨λq=>⟨hsh,q.wi,q.he,q.len,q.inc,q.mem⟩,λq=>⟨e,q.wi,q.he,q.len,q.inc,q.mem⟩⟩
 have h22:∀{B:List Nat} {w0:Wd} {kl:List OA} {F:List aD} {K:KO} {ds:List Tmp} {rest:List bP} {n:Nat} {l:List (Nat×Value)} {D:List Deferred},
  R (λh0=>aI Tryz.prog ds rest (act n ((22,.bool false)::(21,.bool false)::l) D none none) h0 K) B w0 kl F->R (λh0=>aI Tryz.prog ds rest (act n ((22,.bool false)::(21,.bool false)::l) D none none) h0 K) B w0 kl F:=λh=>h
 rcases hsh with rfl|rfl;all_goals
  refine go ?_;refine gG (λa1=>?_) (λa1=>?_)
  rotate_left
  ·refine go ?_;exact bad (λq=>by have:=q.wi;omega) rfl rfl .here
  refine go ?_;refine gG (λa2=>?_) (λa2=>?_)
  rotate_left
  ·refine go ?_;exact bad (λq=>by have:=q.wi;omega) rfl rfl .here
  refine go ?_;refine gG (λa3=>?_) (λa3=>?_)
  rotate_left
  ·refine go ?_;exact bad (λq=>by have:=q.he;omega) rfl rfl .here
  refine go ?_;refine gG (λa4=>?_) (λa4=>?_)
  rotate_left
  ·refine go ?_;exact bad (λq=>by have:=q.he;omega) rfl rfl .here
  have hwh:=Dv (w:=w) (h:=h) ⟨by omega,by omega⟩ ⟨by omega,by omega⟩;refine go ?_;refine aJ rfl (λa5=>?_) (λa5=>?_)
  ·refine go ?_;exact bad (λq=>by have:=q.len;omega) rfl rfl .here
  refine go ?_;refine bQ (λk=>holes.length - k) (λk:Nat=>[(49,.int .i64 (k:Int)),(10,.int .i64 (yB (holes.take k)))]) (λ_=>[]) (λ_=>[]) (λk=>k<=holes.length/\(holes.take k).Pairwise (·<·)/\∀x∈holes.take k,0<=x/\x<w*h) 0 ⟨dK _,by simp,by simp⟩ (body:=?_);rintro k ⟨hk,qW,hmem⟩;refine go ?_;refine aJ rfl (λa6=>?_) (λa6=>?_)
  ·refine go ?_;intro _ _ x hx;refine go ?_;have hxm:=aR hx;refine gG (λa7=>?_) (λa7=>?_)
   rotate_left
   ·refine go ?_;exact bad (λq=>by
     have h1:=q.inc;have h2:=q.mem x hxm;have:=aim h1 hx h2.1;omega) rfl rfl .here
   refine go ?_;refine aJ rfl (λa8=>?_) (λa8=>?_)
   ·refine go ?_;exact bad (λq=>by have:=q.mem x hxm;omega) rfl rfl .here
   refine go ?_;have htk:holes.take (k+1)=holes.take k++[x]:=by rw[pg,hx];rfl
   refine bi (k+1) (by omega) ⟨by omega,?_,?_⟩ (hl:=⟨rfl,by rw[htk,aij];rfl,by repeat (first|exact trivial|refine⟨rfl,?_⟩)⟩)
   ·rw[htk,GQ];refine⟨qW,by simp,λa ha b hb=>?_⟩;rw[bO.1 hb];have:=ail qW ha;omega
   ·rw[htk];intro z hz;rcases gH.1 hz with hz|hz
    ·exact hmem z hz
    ·rw[bO.1 hz];have:=aik (λy hy=>(hmem y hy).1);omega
  have hkl:k=holes.length:=by omega
  subst hkl;rw[eH]at qW hmem;have hok:∀s',(s'=1\/s'=2)->su s' w h holes:=λs' hs'=>⟨hs',⟨by omega,by omega⟩,⟨by omega,by omega⟩,by omega,qW,hmem⟩
  obtain⟨m,hm⟩:=eO (show 0<=w*h by omega);have ain:qU w h holes=jI m holes:=by
   unfold qU;rw[hm];rfl
  refine go ?_;refine FQ ae vh (λxh hxh=>?_);have hxl:xh.length=holes.length:=by rw[<- hxh,bJ]
  refine ak (XU (ay:=xh) (by omega)) (next:=λv1 _=>?_);refine JF (E:=ae) (v:=v1) (ay:=xh) ?_ (λw h p hp f hf=>by cases hf);rw[hxh];refine bY (E:=ae) (v:=v1) (xs:=holes) (by simp) λa1 c1 e1=>?_;subst e1;refine go ?_;rw[hm];refine lY ae ?_;refine bQ (λy:Nat×Option Addr=>m - y.1) (λy=>[(75,.int .i64 (y.1:Int))]) (λy=>[pt b8 (.cells [.int .i64 _,.int .i64 w,.int .i64 h,.slice a1 holes.length c1,.slice y.2 (jI y.1 holes).length (jI y.1 holes).length]),ap ae (.slice y.2 (jI y.1 holes).length (jI y.1 holes).length) (jI y.1 holes)]) (λ_=>[]) (λy=>y.1<=m) (0,none) (dK _) (hk:=by repeat (first|exact aO.nil|(apply aO.cons;(focus (repeat (first|exact az.here|apply az.there)))))) (body:=?_);rintro⟨k,ad⟩ hk;dsimp only at hk⊢;have hcl:=JY k holes;refine go ?_;refine aJ rfl (λa9=>?_) (λa9=>?_)
  ·refine go ?_;refine ak (XT (xs:=holes) (z:=(k:Int)) hl (qW.imp (λh=>Int.le_of_lt h))) (next:=λy hy=>?_);have hmm:=hy.mem qW;clear hy;obtain⟨n,b⟩:=y;dsimp only at hmm;refine go ?_;cases b with
   |true=>
    refine go ?_;have e1:jI (k+1) holes=jI k holes:=by rw[VZ,if_pos (hmm.1 rfl),iK]
    rw[<- e1];exact bi (k+1,ad) (by show m - (k+1)<m - k;omega) (by show k+1<=m;omega)
   |false=>
    have hnm:¬(k:Int)∈holes:=λh=>by have:=hmm.2 h;cases this
    have e1:jI k holes++[(k:Int)]=jI (k+1) holes:=by rw[VZ,if_neg hnm]
    have e2:(jI k holes).length+1=(jI (k+1) holes).length:=by rw[<- e1];simp
    refine go ?_;intro b89;refine go ?_;refine jO ae (xs:=jI k holes) (k:Int) () (by omega) λad'=>?_;rw[e1,e2];refine go ?_;exact bi (k+1,ad') (by show m - (k+1)<m - k;omega) (by show k+1<=m;omega)
  have hkm:k=m:=by omega
  subst hkm;refine go ?_;refine aZ jk (A:=ap ae (.slice ad (jI k holes).length (jI k holes).length) (jI k holes)) (h:=?_);refine go ?_;refine aj ⟨true,.slice a1 holes.length c1,.slice ad (jI k holes).length (jI k holes).length⟩ (hv:=rfl) (hp:=⟨λ_=>hok _ (by first|exact .inl rfl|exact .inr rfl),λ_=>rfl⟩) (hF:=?_);show Sub [ah ae _ holes,ah ae _ (qU w h holes)] _;rw[ain];exact .cons (by simp) (.cons (by simp) .nil)
end Go.Proofs.YtfakljdleblkoaaGreat
namespace Go.Proofs.YtfakljdleblkoaaGreat
open Go.Ideal Kd
structure zW(g:cO):Prop where
 w:lD g.w
 h:lD g.h
 holes:g.holes.length<4611686018427387904
 cells:g.cells.length<4611686018427387904
theorem XV{g:cO}{vh vc:Value}(hS:zW g):
 aQ Tryz.prog (.func 259) [.agg ⟨oV g vh vc⟩] [] [] (sG g vh vc) (λe:Int=>.int .i64 e) (λ_=>[]) (λ_=>[]) (λe=>e=0↔ik g):=by
 refine aK _ (aM 259) λB w0=>?_;refine go ?_;intro b1;refine go ?_;refine ak (PU (s:=g.shape) (w:=g.w) (h:=g.h) (holes:=g.holes) (vh:=vh) hS.w hS.h hS.holes) (next:=λy hy=>?_);obtain⟨ok,v1,v2⟩:=y;cases ok with
 |false=>
  have hno:¬su g.shape g.w g.h g.holes:=λh=>by have:=hy.2 h;cases this
  dsimp only[mkV,wO,cond,List.nil_append];refine go ?_;intro b3;refine go ?_;exact aj 130 (hv:=rfl) (hp:=⟨(λh=>by cases h),λh=>absurd h.make hno⟩)
 |true=>
  have hmk:=hy.1 rfl;dsimp only[mkV,wO,cond,sG,BC,List.cons_append,List.nil_append];refine go ?_;intro b3;refine go ?_;refine ak (sF (xs:=qU g.w g.h g.holes) (ys:=g.cells) (by
   have:=JY (g.w*g.h).toNat g.holes;have:=Dv hmk.wi hmk.he;unfold qU;omega)) (next:=λ_ _=>?_)
  refine go ?_;refine pz rfl (λh1=>?_) (λh1=>?_)
  ·refine go ?_;exact aj 130 (hv:=rfl) (hp:=⟨(λh=>by cases h),λh=>absurd h.cells.symm h1⟩)
  ·refine go ?_;exact aj 0 (hv:=rfl) (hp:=⟨λ_=>⟨hmk,h1.symm⟩,λ_=>rfl⟩)
abbrev aip(x:Int×(Int×Int)):List Value:=[.int .i64 x.1,Bl x.2]
theorem PV{b1:Nat}{g:cO}{vh vc:Value}(hg:ik g):zM Tryz.prog aip (.func 302) [] [ptr' b1] [bz b1 0 (oV g vh vc),ah ae vc g.cells] (λxs=>xs=bA g):=by
 intro S inv ok step s0 ny y1 y2 F' h0 hok hy;have hgl:=hg.len;have lJ:=hg.make.wi;rw[bX,bX,bH];refine aK _ (aM 302) λB w0=>?_;refine go ?_;refine bQ (λy:Nat×S=>g.cells.length - y.1) (λy=>[(10,.int .i64 (y.1:Int))]) (λy=>inv y.2) (λ_=>[]) (λy=>y.1<=g.cells.length/\ok ((bA g).take y.1) y.2/\bS step y.2 ((bA g).drop y.1)=bS step s0 (bA g)) (0,s0) ⟨dK _,h0,rfl⟩ (body:=?_);rintro⟨k,s⟩ ⟨hk,hos,hrun⟩;dsimp only at hk hos hrun⊢;refine go ?_;refine aJ rfl (λh1=>?_) (λh1=>?_)
 ·refine go ?_;intro _ _ x hx;have hxb:=hg.cell x (aR hx);have hsp:=Bt hx;have hd:(bA g).drop k=((k:Int),oP g x)::(bA g).drop (k+1):=by
   rw[nJ (by rw[qV];omega)];congr 1;rw[bC (by rw[qV];omega)]at hsp;exact Option.some.inj hsp
  have hX:(bA g).take k++((k:Int),oP g x)::(bA g).drop (k+1)=bA g:=by rw[<- hd,mM]
  refine go ?_;refine(fF rfl rfl (ad7 (a:=x) (b:=g.w) rfl rfl (by omega))).h ?_;refine go ?_;have hq:0<=x.tdiv g.w/\x.tdiv g.w<=x:=by
   rw[Cf hxb.1];exact⟨Int.ediv_nonneg hxb.1 (by omega),Int.ediv_le_self _ hxb.1⟩
  have hr:0<=x.tmod g.w/\x.tmod g.w<=x:=by
   rw[RA hxb.1];refine⟨Int.emod_nonneg _ (by omega),?_⟩;have:=RB x g.w;have h3:0<=g.w*(x/g.w):=Int.mul_nonneg (by omega) (Int.ediv_nonneg hxb.1 (by omega));omega
  refine(fF rfl rfl (Uz (a:=x) (b:=g.w) rfl rfl (by omega) (by omega) (by omega))).h ?_;refine go ?_;refine aJ rfl (λh2=>?_) (λh2=>?_)
  ·have hso:oP g x=(x.tmod g.w - (x.tdiv g.w).tdiv 2,x.tdiv g.w):=by unfold oP;rw[if_pos h2]
   have hq2:0<=(x.tdiv g.w).tdiv 2/\(x.tdiv g.w).tdiv 2<=x.tdiv g.w:=by
    rw[Cf hq.1];omega
   rw[hso]at hX hd;have gJ:=hy _ s _ _ hos hX;refine go ?_;refine(fF rfl rfl (Uz (a:=x.tdiv g.w) (b:=2) rfl rfl (by omega) (by omega) (by omega))).h ?_;refine go ?_;refine ak gJ (next:=λ_ _=>?_);rw[hd,bS]at hrun;refine go ?_;cases hst:step s ((k:Int),_)with
   |mk s' b=>
    have hst:=hst;rw[hst]at hrun;cases b with
    |true=>
     refine go ?_;refine bi (k+1,s') (by show g.cells.length - (k+1)<g.cells.length - k;omega) ⟨by show k+1<=_;omega,?_,hrun⟩;have:=hok _ s _ _ hos hX (by rw[hst]);rw[hst]at this;rw[show(bA g).take (k+1)=(bA g).take k++[_]from by rw[pg,hsp];rfl];rw[hso];exact this
    |false=>
     refine go ?_;exact aj (bA g) (hv:=rfl) (hp:=rfl) (hk:=by rw[<- hrun];exact aO.all _)
  ·have hso:oP g x=(x.tmod g.w,x.tdiv g.w):=by unfold oP;rw[if_neg h2]
   rw[hso]at hX hd;have gJ:=hy _ s _ _ hos hX;refine go ?_;refine ak gJ (next:=λ_ _=>?_);rw[hd,bS]at hrun;refine go ?_;cases hst:step s ((k:Int),_)with
   |mk s' b=>
    have hst:=hst;rw[hst]at hrun;cases b with
    |true=>
     refine go ?_;refine bi (k+1,s') (by show g.cells.length - (k+1)<g.cells.length - k;omega) ⟨by show k+1<=_;omega,?_,hrun⟩;have:=hok _ s _ _ hos hX (by rw[hst]);rw[hst]at this;rw[show(bA g).take (k+1)=(bA g).take k++[_]from by rw[pg,hsp];rfl];rw[hso];exact this
    |false=>
     refine go ?_;exact aj (bA g) (hv:=rfl) (hp:=rfl) (hk:=by rw[<- hrun];exact aO.all _)
 have hkl:k=(bA g).length:=by rw[qV];omega
 rw[hkl,Cg]at hrun;refine go ?_;exact aj (bA g) (hv:=rfl) (hp:=rfl) (hk:=by rw[<- hrun];exact aO.all _)
end Go.Proofs.YtfakljdleblkoaaGreat
namespace Go.Proofs.YtfakljdleblkoaaGreat
open Go.Ideal Kd
theorem XW:A8 (p9 Tryz.prog qI qa):=CQ _ _ _ (λf q h v h' hm=>by cases hm)
theorem aiq(h:IH)(K:BR):(Cs (p9 Tryz.prog qI qa) 1000).call ⟨.func 148,[.int .u64 0],[],none⟩ h K=K (.ok (.int .i64 0)) none h:=by kernel_rfl
theorem air:eG Tryz.prog 148 [.int .u64 0] [] (.int .i64 0):=λB w s=>by
 have h2:=aiq w.h λr pm h'=> @decide (pm=none/\r=.ok (.int .i64 0)/\h'=w.h) (Classical.propDecidable _);have h1:=Im XW (h2.trans (@fQ _ (Classical.propDecidable _) ⟨rfl,rfl,rfl⟩));refine .rU _ h1 λr pm h' hg=>?_;obtain⟨rfl,rfl,rfl⟩:= @jg _ (Classical.propDecidable _) hg;exact⟨rfl,w,(),rfl,s,rfl,trivial⟩
theorem ais{a:Option Addr}{c:Nat}:eG Tryz.prog 275 [.slice a 0 c,.int .i64 0,.int .i64 0] [] (.tuple ⟨[]⟩):=by
 refine aK _ (aM 275) λB w0=>?_;refine go ?_;refine oJ ?_;refine go ?_;exact aj () (hv:=rfl) (hp:=trivial)
theorem ait{a:Option Addr}{c:Nat}:eG Tryz.prog 203 [.slice a 0 c,.int .i64 0,.int .i64 0,.int .i64 0] [] (.tuple ⟨[]⟩):=by
 refine aK _ (aM 203) λB w0=>?_;refine go ?_;refine oJ ?_;refine go ?_;refine ak (ais (a:=a) (c:=c)) (next:=λ_ _=>?_);refine go ?_;exact aj () (hv:=rfl) (hp:=trivial)
theorem aiu{a:Option Addr}{c:Nat}:eG Tryz.prog 145 [.slice a 0 c] [] (.tuple ⟨[]⟩):=by
 refine aK PO XR λB w0=>?_;refine go ?_;refine(fF rfl rfl (Om (k:=.u64) (m:=0) (by kernel_rfl:Tryz.prog.underlying 3=some (.int .i64)) (by kernel_rfl) rfl (by rfl))).h ?_;refine ak air (next:=λ_ _=>?_);refine go ?_;refine ak (ait (a:=a) (c:=c)) (next:=λ_ _=>?_);refine go ?_;exact aj () (hv:=rfl) (hp:=trivial)
theorem aiv:∃fn body,Tryz.prog.funcs[145]? =some fn/\fn.body=some body/\fn.name≠ "runtime.NumGoroutine" :=by
 obtain⟨fn,h1,h2⟩:=XW.fn 145 PO XR;have h3:Tryz.prog.funcs[145]? =some fn:=h1;have h4:(fn.name== "runtime.NumGoroutine")=false:=by
  have e:(Tryz.prog.funcs[145]?).map (λf=>f.name== "runtime.NumGoroutine")=some false:=by kernel_rfl
  rw[h3]at e;exact Option.some.inj e
 have h5:fn.body.isSome=true:=by
  have e:(Tryz.prog.funcs[145]?).map (λf=>f.body.isSome)=some true:=by kernel_rfl
  rw[h3]at e;exact Option.some.inj e
 obtain⟨body,hb⟩:=Zv.1 h5;exact⟨fn,body,h3,hb,by simpa using h4⟩
theorem Gg{a:Option Addr}{m:Nat}{zs:List Int}(hm:m=zs.length)(hl:zs.length<4611686018427387904):
 aQ Tryz.prog (.func 145) [.slice a m m] [] [ap ae (.slice a m m) zs] [] (λ_:Unit=>.tuple ⟨[]⟩) (λ_=>[ap ae (.slice a m m) (bD zs)]) (λ_=>[]) (λ_=>True):=by
 subst hm;obtain⟨fn,body,h1,h2,h3⟩:=aiv;by_cases hz:zs=[]
 ·subst hz;have e:bD []=[]:=by simp[bD]
  rw[e];intro B w s;obtain⟨S1,s1,back⟩:=s.Jw (k1:=[]) (aT:=[ap ae (.slice a 0 0) []]) (F1:=[]) .nil .nil;refine .rU _ (aiu (a:=a) (c:=0) S1 w s1) ?_;rintro r pm h' ⟨hp,w',y,e1,st,e2,_⟩;exact⟨hp,w',(),e1,back w' _ _ st,e2,trivial⟩
 ·exact ae0 srt h1 h2 h3 (BZ.2 hz) hl
theorem XX:rY Tryz.prog 246 Bl:=afc (e:=3) (by kernel_rfl) (by kernel_rfl) (by kernel_rfl) (λa b=>by kernel_rfl)
theorem PW{g:cO}{vh vc:Value}:aQ Tryz.prog (.func 260) [.agg ⟨oV g vh vc⟩] [] [] (sG g vh vc) (λb:Nat=>.func (.func 302) #[] #[ptr' b]) (λ_=>[]) (λb=>[bz b 0 (oV g vh vc),ah ae vc g.cells]) (λ_=>True):=by
 refine aK _ (aM 260) λB w0=>?_;refine go ?_;intro b1;refine go ?_;refine aZ (dH (b:=b1)) (h:=?_);exact aj b1 (hv:=rfl) (hp:=trivial)
def iT(c:Prop)(f:aD):aD:=⟨λw=>c->f.p w,λa h e=>f.mono a (h e)⟩
theorem nZ{B:List Nat}{w0:Wd}{kl:List OA}{F:List aD}{Q:IH->Prop}{c:Prop}{f:aD}(hc:¬c)(h:R Q B w0 kl (iT c f::F)):R Q B w0 kl F:=fO (iT c f) (λw _ e=>absurd e hc) h
theorem qy{B:List Nat}{w0:Wd}{kl:List OA}{F:List aD}{Q:IH->Prop}{c:Prop}{f:aD}(hf:f∈F)(h:R Q B w0 kl (iT c f::F)):R Q B w0 kl F:=fO (iT c f) (λw hw _=>hw f hf) h
structure PX where
 v:Value
 e:Int
abbrev DW(y:PX):Value:=.tuple ⟨[y.v,.int .i64 y.e]⟩
theorem KN{S α:Type}(f:S->α->S):∀(xs:List α) (s:S),fM (λs x=>(f s x,Out.normal)) s xs=(xs.foldl f s,.normal)
 |[],s=>rfl
 |x::xs,s=>by
  show fM (λs x=>(f s x,Out.normal)) (f s x) xs=_;rw[KN f xs];rfl
section
variable {P:Program} {B:List Nat} {w0:Wd} {kl kl':List OA} {F:List aD} {Q:IH->Prop}
theorem aiw{b:Nat}{cs cs':List Value}(e:cs=cs')(h:R Q B w0 (pt b (.cells cs')::kl') F)(hk:az (pt b (.cells cs)) kl kl':=by exact fB):R Q B w0 kl F:=by
 subst e;exact λw s=>h w (s.fA hk)
theorem BD{α:Type}{E:Enc α}{v:Value}{xs:List α}(h:∀a,v=.slice a xs.length xs.length->R Q B w0 kl F)(hk:az (ap E v xs) kl kl':=by exact fB):R Q B w0 kl F:=λw s=>by
 obtain⟨S,⟨S1,S2,q,_⟩,_⟩:=(s.fA hk).own;obtain⟨a,e⟩:=NP q;exact h a e w s
end
abbrev KP(b n:Nat):Value:=.slice (some ⟨b,0,some 0⟩) n n
theorem XY{g:cO}{vh vc:Value}(hS:zW g):
 aQ Tryz.prog (.func 175) [.agg ⟨oV g vh vc⟩] [] [] (sG g vh vc) DW (λ_=>[]) (λy=>[iT (y.e=0) (ah (uk ae) y.v (fH g))]) (λy=>y.e=0↔ik g):=by
 refine zG _ (aM 175) λB w0=>?_;refine go ?_;intro b1 b2;refine go ?_;refine ak (XV (g:=g) hS) (next:=λe he=>?_);refine go ?_;refine aJ rfl (λh1=>?_) (λh1=>?_)
 ·refine go ?_;refine nZ (c:=(130:Int)=0) (f:=ah (uk ae) (.slice none 0 0) (fH g)) (by omega) ?_;exact u7 ⟨.slice none 0 0,130⟩ (hv:=rfl) (hp:=⟨(λh=>by cases h),λh=>absurd (he.2 h) h1⟩)
 have hg:=he.1 (by omega);have hgl:=hg.len;have hsb:=J2 hg;have hsl:=qV g;refine go ?_;intro b4 b5;refine go ?_;refine UL (aT:=[pt b4 (.cells Dw),pt b2 (.cells [.slice none 0 0]),pt b1 (.cells (oV g vh vc))]) [] (λ_:Unit=>[]) (λ_=>[pt b5 (.cells [.int .i64 (dY g:Int)])]) (λ_=>[]) (λ_=>True) (hx:=?_) (hy:=?_)
 ·refine aJ rfl (λh2=>?_) (λh2=>?_)
  ·refine go ?_;rw[show(4:Int)=(dY g:Int)by unfold dY;rw[if_pos h2];rfl];exact Ju () trivial
  ·refine go ?_;rw[show(6:Int)=(dY g:Int)by unfold dY;rw[if_neg h2];rfl];exact Ju () trivial
 intro _ _;refine go ?_;refine zJ Bl (λbm=>?_);refine go ?_;intro b6;refine go ?_;refine ak (PW (g:=g) (vh:=vh) (vc:=vc)) (next:=λbs _=>?_);refine go ?_;refine JE (Z:=Nat) (λ(m:List ((Int×Int)×Value)) (x:Int×(Int×Int))=>(upd x.2 (.int .i64 x.1) m,.normal)) (λm=>[gL Bl bm m,pt b6 (.cells [.map (some bm)])]) (λvs m=>m=fq vs) [] _ (λx b8=>[pt b8 (.cells [.int .i64 x.2.1,.int .i64 x.2.2])]) rfl (λvs s x rest hs _ _=>by rw[hs,OM]) (PV (b1:=bs) (vh:=vh) (vc:=vc) hg) (by intro s x lo o B w0;refine go ?_;intro b8;refine go ?_;exact Bj b8 rfl) ?_ ?_ (λ_ _=>trivial)
 ·intro vs s x rest b8 lo L B w0 hs hX;dsimp only[List.cons_append,List.nil_append];refine go ?_;refine xR XX x.2 (v:=.int .i64 x.1) ?_;refine go ?_;exact qQ () rfl trivial trivial
 intro r1 xs hxs;subst hxs;rw[KN (λ(m:List ((Int×Int)×Value)) (x:Int×(Int×Int))=>upd x.2 (.int .i64 x.1) m)];dsimp only[List.cons_append,List.nil_append];rw[show(bA g).foldl (λ(m:List ((Int×Int)×Value)) (x:Int×(Int×Int))=>upd x.2 (.int .i64 x.1) m) []=fq (bA g)from rfl];refine aZ (Di (b:=bm)) (h:=?_);refine aZ (dH (b:=b6)) (h:=?_);refine go ?_;refine xN g.cells.length ⟨by omega,by omega,by omega⟩ λbl=>?_;rw[show zeros [.slice none 0 0] g.cells.length=List.replicate g.cells.length (.slice none 0 0)from Fv _ _];refine afm (lF ae) (x0:=([]:List Int)) (λw=>⟨.inl ⟨rfl,rfl,rfl⟩,λ_=>rfl⟩) (h:=?_);refine go ?_;refine ak (PW (g:=g) (vh:=vh) (vc:=vc)) (next:=λbs2 _=>?_);refine go ?_;refine aZ (dH (b:=b4)) (h:=?_);refine aZ (dH (b:=b5)) (h:=?_);have hml:(eT.take (dY g)).length=dY g:=by rw[iL];show min (dY g) 6=_;have:=Bu g;omega
 refine fO (ah OO (.slice (some ⟨b4,0,some 0⟩) (dY g) 6) (eT.take (dY g))) (λw h=>af8 (h (bz b4 0 Dw) (bU _ (bR ..))) (Bu g)) ?_;refine JE (Z:=Nat) (λ(xss:List (List Int)) (x:Int×(Int×Int))=>(xss.set x.1.toNat (mF g x),.normal)) (λxss=>[nS (lF ae) bl xss,pt b2 (.cells [KP bl g.cells.length])]) (λvs xss=>xss=vs.map (mF g)++List.replicate (g.cells.length - vs.length) []) (List.replicate g.cells.length []) _ (λx b10=>[pt b10 (.cells [.int .i64 x.2.1,.int .i64 x.2.2])]) (by simp) (λvs s x rest hs hX _=>by
  have h1:=J3 hX;rw[hs,h1.1];have:=V4 (A:=vs.map (mF g)) (n:=g.cells.length) (by rw[bJ];exact h1.2.1) (mF g x);rw[bJ]at this;rw[eX,this,di,gP];rfl) (PV (b1:=bs2) (vh:=vh) (vc:=vc) hg) (by intro s x lo o B w0;refine go ?_;intro b8;refine go ?_;exact Bj b8 rfl) ?_ ?_ (λ_ _=>trivial)
 ·intro vs xss x rest b10 lo L B w0 hs hX;dsimp only[List.cons_append,List.nil_append];obtain⟨hc,hvl,hxm⟩:=J3 hX;have hbx:=hsb x hxm;obtain⟨c,s1,s2⟩:=x;dsimp only at hc hbx;subst hc;have hxk:xss[vs.length]? =some []:=by
   rw[hs,mU (by simp),bJ,vU,Zz,if_pos (by omega)]
  have hxl:xss.length=g.cells.length:=by rw[hs];simp;omega
  refine go ?_;refine(fF rfl rfl (agb (m:=dY g) rfl rfl (Bu g))).h ?_;refine go ?_;refine JK (A:=nS (lF ae) bl xss) (A':=nS (lF ae) bl (xss.set vs.length (gq (fq (bA g)) (s1,s2) ((eT.take (dY g)).take 0)))) (congrArg (nS (lF ae) bl) (by
   apply iF;intro i;rw[mV];by_cases hi:vs.length=i
   ·subst hi;rw[if_pos rfl,if_pos (by omega),hxk];rfl
   ·rw[if_neg hi])) ?_
  refine bQ (λj=>dY g - j) (λj:Nat=>[(47,.int .i64 (j:Int))]) (λj=>[nS (lF ae) bl (xss.set vs.length (gq (fq (bA g)) (s1,s2) ((eT.take (dY g)).take j)))]) (λ_=>[]) (λj=>j<=dY g) 0 (dK _) (body:=?_);intro j hj;refine go ?_;refine aJ rfl (λh2=>?_) (λh2=>?_)
  ·refine go ?_;obtain⟨dd,hd⟩:∃dd,(eT.take (dY g))[j]? =some dd:=⟨_,bC (by omega)⟩
   have hdb:=af9 dd (LF (aR hd));have hdv:jh (jK Dw (j*2)) 2=some [.int .i64 dd.1,.int .i64 dd.2]:=aga (j:=j) (d:=dd) (by rw[uF]at hd;split at hd;exact hd;cases hd)
   have hnr:=af7 (fq (bA g)) (s1,s2) ((eT.take (dY g)).take j) dd;rw[<- gZ hd]at hnr;have hnl:=JZ (fq (bA g)) (s1,s2) ((eT.take (dY g)).take j);have hjm:=Bu g;rw[iL]at hnl;obtain⟨d1,d2⟩:=dd;dsimp only at hdb hdv hnr;refine(Ur (o:=0) (j:=j*2) (cs:=Dw) rfl rfl rfl (bU _ (bU _ (bR ..))) hdv).h ?_;refine go ?_;intro b12;refine go ?_;refine(fF rfl rfl (CW (a:=s1) (b:=d1) rfl rfl (by omega) (by omega))).h ?_;refine go ?_;refine(fF rfl rfl (CW (a:=s2) (b:=d2) rfl rfl (by omega) (by omega))).h ?_;refine go ?_;refine Xz XX (s1+d1,s2+d2) (λv hv hm=>?_) (λhm=>?_)
   ·obtain⟨c,rfl,hc⟩:=V3 _ _ hv;rw[hv]at hnr;refine go ?_;refine Vw (lF ae) (b:=bl) (xss:=xss.set vs.length (gq (fq (bA g)) (s1,s2) ((eT.take (dY g)).take j))) (k:=vs.length) (xs:=gq (fq (bA g)) (s1,s2) ((eT.take (dY g)).take j)) (by rw[mV,if_pos rfl,if_pos (by omega)]) (h:=λws v Gh hv2=>?_);rw[nM]at Gh;refine Vy ae v (gq (fq (bA g)) (s1,s2) ((eT.take (dY g)).take j)) (λhz=>?_);refine pF (o:=0+vs.length*1) (cs:=ws) v (by rw[fw,pV];exact hv2) ?_;refine go ?_;intro b43;refine go ?_;refine Vn (xs:=gq (fq (bA g)) (s1,s2) ((eT.take (dY g)).take j)) ae c () (by omega) (next:=λad=>?_);rw[show gq (fq (bA g)) (s1,s2) ((eT.take (dY g)).take j)++[c]=gq (fq (bA g)) (s1,s2) ((eT.take (dY g)).take (j+1))from hnr.symm];refine go ?_;refine mD (o:=0+vs.length*1) (cs:=ws) (v:=.slice ad ((gq (fq (bA g)) (s1,s2) ((eT.take (dY g)).take j)).length+1) ((gq (fq (bA g)) (s1,s2) ((eT.take (dY g)).take j)).length+1)) (cs':=ws.set vs.length (.slice ad ((gq (fq (bA g)) (s1,s2) ((eT.take (dY g)).take j)).length+1) ((gq (fq (bA g)) (s1,s2) ((eT.take (dY g)).take j)).length+1))) (by rw[fw,pV]) (by omega) ?_;refine Vz ae (.slice ad ((gq (fq (bA g)) (s1,s2) ((eT.take (dY g)).take j)).length+1) ((gq (fq (bA g)) (s1,s2) ((eT.take (dY g)).take j)).length+1)) (gq (fq (bA g)) (s1,s2) ((eT.take (dY g)).take (j+1))) (λe=>by rw[hnr]at e;exact absurd e (by show¬(_++[c]=[]);simp)) ?_;refine Vx (lF ae) (b:=bl) (xss:=xss.set vs.length (gq (fq (bA g)) (s1,s2) ((eT.take (dY g)).take j))) (vs:=ws) (k:=vs.length) (xs:=gq (fq (bA g)) (s1,s2) ((eT.take (dY g)).take (j+1))) (by rw[nM];exact Gh) (by rw[nM];omega) (h:=?_);rw[List.set_set];refine go ?_;exact bi (j+1) (by omega) (by omega)
   ·rw[sj hm]at hnr;refine go ?_;refine JK (A:=nS (lF ae) bl (xss.set vs.length (gq (fq (bA g)) (s1,s2) ((eT.take (dY g)).take j)))) (A':=nS (lF ae) bl (xss.set vs.length (gq (fq (bA g)) (s1,s2) ((eT.take (dY g)).take (j+1))))) (congrArg (nS (lF ae) bl) ((by rw[hnr];exact congrArg (xss.set vs.length) (iK _).symm))) ?_;exact bi (j+1) (by omega) (by omega)
  have hjl:j=dY g:=by omega
  subst hjl;refine JK (A:=nS (lF ae) bl (xss.set vs.length (gq (fq (bA g)) (s1,s2) ((eT.take (dY g)).take (dY g))))) (A':=nS (lF ae) bl (xss.set vs.length (gq (fq (bA g)) (s1,s2) (eT.take (dY g))))) (congrArg (nS (lF ae) bl) ((congrArg (λz=>xss.set vs.length (gq (fq (bA g)) (s1,s2) z)) (List.take_of_length_le (Nat.le_of_eq hml))))) ?_;refine go ?_;refine Vw (lF ae) (b:=bl) (xss:=xss.set vs.length (gq (fq (bA g)) (s1,s2) (eT.take (dY g)))) (k:=vs.length) (xs:=gq (fq (bA g)) (s1,s2) (eT.take (dY g))) (by rw[mV,if_pos rfl,if_pos (by omega)]) (h:=λws v Gh hv2=>?_);rw[nM]at Gh;refine Vy ae v (gq (fq (bA g)) (s1,s2) (eT.take (dY g))) (λhz=>?_);refine pF (o:=0+vs.length*1) (cs:=ws) v (by rw[fw,pV];exact hv2) ?_;have hn6:=JZ (fq (bA g)) (s1,s2) (eT.take (dY g));rw[hml]at hn6;have hjm:=Bu g;refine BD (E:=ae) (v:=v) (xs:=gq (fq (bA g)) (s1,s2) (eT.take (dY g))) λa hv=>?_;subst hv;refine ak (Gg (a:=a) (zs:=gq (fq (bA g)) (s1,s2) (eT.take (dY g))) rfl (by omega)) (next:=λ_ _=>?_);refine aiw (b:=bl) (cs:=ws) (cs':=ws.set vs.length (.slice a (gq (fq (bA g)) (s1,s2) (eT.take (dY g))).length (gq (fq (bA g)) (s1,s2) (eT.take (dY g))).length)) (agc hv2).symm ?_;refine Vz ae (.slice a (gq (fq (bA g)) (s1,s2) (eT.take (dY g))).length (gq (fq (bA g)) (s1,s2) (eT.take (dY g))).length) (bD (gq (fq (bA g)) (s1,s2) (eT.take (dY g)))) (λe=>hz (lQ.1 (by rw[<- xS,e];rfl))) ?_;refine Vx (lF ae) (b:=bl) (xss:=xss.set vs.length (gq (fq (bA g)) (s1,s2) (eT.take (dY g)))) (vs:=ws) (k:=vs.length) (xs:=bD (gq (fq (bA g)) (s1,s2) (eT.take (dY g)))) (by rw[nM];exact Gh) (by rw[nM];omega) (h:=?_);refine JK (A:=nS (lF ae) bl ((xss.set vs.length (gq (fq (bA g)) (s1,s2) (eT.take (dY g)))).set vs.length (bD (gq (fq (bA g)) (s1,s2) (eT.take (dY g)))))) (A':=nS (lF ae) bl (xss.set ((vs.length:Int)).toNat (mF g ((vs.length:Int),s1,s2)))) (congrArg (nS (lF ae) bl) ((by rw[List.set_set,eX];rfl))) ?_;refine go ?_;exact qQ () rfl trivial trivial
 intro r2 BF aiz;subst aiz;rw[KN (λ(xss:List (List Int)) (x:Int×(Int×Int))=>xss.set x.1.toNat (mF g x))];dsimp only[List.cons_append,List.nil_append];rw[show(bA g).foldl (λ(xss:List (List Int)) (x:Int×(Int×Int))=>xss.set x.1.toNat (mF g x)) (List.replicate g.cells.length [])=fH g from agd g];refine aZ (afn (A:=lF ae) (E:=uk ae) (b:=bl) (xss:=fH g) (c:=(fH g).length) (λv=>v) rfl (λ_ _=>rfl) (λv xs=>afo)) (h:=?_);rw[wH];refine go ?_;refine qy (c:=(0:Int)=0) (f:=ah (uk ae) (.slice (some ⟨bl,0,some 0⟩) g.cells.length g.cells.length) (fH g)) (by simp) ?_;exact u7 ⟨.slice (some ⟨bl,0,some 0⟩) g.cells.length g.cells.length,0⟩ (hv:=rfl) (hp:=⟨λ_=>hg,λ_=>rfl⟩)
