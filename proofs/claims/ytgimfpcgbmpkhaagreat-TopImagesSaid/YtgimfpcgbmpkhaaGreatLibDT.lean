/- Part. -/
import Derived.Test.YtgimfpcgbmpkhaaGreatShelf
import Derived.Test.YtgimfpcgbmpkhaaGreatLibAT
set_option linter.all false
set_option maxRecDepth 10000
set_option maxHeartbeats 4000000
namespace Go.Proofs.YtgimfpcgbmpkhaaGreat
open Tryz (prog)
open Go.Ideal
noncomputable def UR:=qL prog 218
def aci:ng prog 218=some UR:=s8
def srt:Tn prog 218:=λblk off cap zs w h1 h2 h3=>Any.slices_Sort_int Tryz.lays189 blk off cap zs w h1 h2 h3
open Go.Ideal Kd
noncomputable def PM:=qL prog 66
def UT:ng prog 66=some PM:=s8
noncomputable def UU:=qL prog 228
def anu:ng prog 228=some UU:=s8
variable{x:Int}
def anv:dO prog 224 [iV x] [] (.bool false):=by
 refine gB 224 λB w0=>?_;refine aZ ?_;rw[dA (λh=>h rfl)];rfl
def anw:dO prog 334 [iV x] [] (.bool false):=by
 refine gB 334 λB w0=>?_;refine aZ ?_;rw[dA (λh=>h rfl)];rfl
def anx{y:Int}:dO prog 323 [iV x,iV y] [] (.bool (decide (x<y))):=by
 refine gB 323 λB w0=>?_;refine gC (anv (x:=x)) λ_ _=>?_;exact dH
def UW(xs:ae Int)(z:Int)(y:Nat×Bool):Prop:=y.1<=xs.length/\(∀(j:Nat) x,j<y.1->xs[j]? =some x->x<z)/\(∀(j:Nat) x,y.1<=j->xs[j]? =some x->z<=x)/\(y.2=true↔xs[y.1]? =some z)
variable{xs:ae Int}{z:Int}
def UW.mem{y:Nat×Bool}(h:UW xs z y)(hs:xs.Pairwise (·<·)):y.2=true↔z∈xs:=by
 obtain⟨h1,h2,h3,h4⟩:=h;rw[h4];refine⟨λh=>aV h,λh=>?_⟩;obtain⟨j,hj⟩:=zb.1 h;have hjl:=(bz.1 hj)
 rcases QN j y.1 with h5|h5|h5
 .have:=h2 j z h5 hj;omega
 .rw[<- h5];exact hj
 .have hyl:y.1<xs.length:=by have:=hjl.1;omega
  have hy:xs[y.1]? =some xs[y.1]:=bN hyl;have h6:=h3 y.1 _ (bG _) hy;have h7:=zf.1 hs y.1 j hyl hjl.1 h5;rw[hjl.2]at h7;omega
variable{v:ah}
def acj(hl:xs.length<4611686018427387904)(hs:xs.Pairwise (·<=·)):
 fC prog 297 [v,iV z] [ay aj v xs] (λy:Nat×Bool=>.tuple ⟨[iV (y.1:Int),.bool y.2]⟩) (UW xs z):=by
 refine gB 297 λB w0=>?_;refine gL (λy:Nat×Nat=>y.2 - y.1) (λy=>[(7,iV (y.1:Int)),(8,iV (y.2:Int))]) (λy=>y.1<=y.2/\y.2<=xs.length/\(∀(j:Nat) x,j<y.1->xs[j]? =some x->x<z)/\(∀(j:Nat) x,y.2<=j->xs[j]? =some x->z<=x)) (0,xs.length) ⟨bI _,bG _,λj x hj=>by omega,λj x hj hx=>by have:=(bz.1 hx).1;omega⟩ ?_;rintro⟨a,b⟩ ⟨hab,hb,hlo,hhi⟩;dsimp only at hab hb hlo hhi⊢;refine aK ?_ ?_<;>intro h1
 .have Eo:a<=(a+b)>>>1/\(a+b)>>>1<b:=by
   rw[Me];omega
  generalize hm:(a+b)>>>1=m at Eo;refine go ?_;rw[show(a:Int)+(b:Int)=((a+b:Nat):Int)by omega];refine(dx rfl rfl (xA (k:=.u64) (m:=((a+b:Nat):Int)) (by kernel_rfl:prog.underlying 3=some (.int .i64)) s8 rfl (OC s6))).h ?_;refine(dx rfl rfl (Tv (a:=a+b) (b:=1) rfl rfl s6)).h ?_;rw[hm];refine(dx rfl rfl (xA (k:=.i64) (m:=(m:Int)) (by kernel_rfl:prog.underlying 71=some (.int .u64)) s8 rfl (wrapN s6))).h ?_;refine go ?_;intro _ _ x hx;refine gC (anx (x:=x) (y:=z)) λ_ _=>?_;refine go ?_;have hle:∀(i j:Nat) u v,i<=j->xs[i]? =some u->xs[j]? =some v->u<=v:=by
   intro i j u v hij hu hv;by_cases e:i=j
   .subst e;rw[hu]at hv;injection hv with hv;omega
   .exact zf.1 hs i j (bz.1 hu).1 (bz.1 hv).1 s6|>λh=>by
     rw[(bz.1 hu).2,(bz.1 hv).2]at h;exact h
  refine rU rfl ?_ ?_<;>intro h2
  .refine go ?_;refine aW (m+1,b) AS ⟨by show m+1<=b;omega,hb,λj u hj hu=>?_,hhi⟩;have:=hle j m u x (by show j<=m;have:j<m+1:=hj;omega) hu hx;omega
  .refine go ?_;refine aW (a,m) AT ⟨by show a<=m;omega,by show m<=_;omega,hlo,λj u hj hu=>?_⟩;have:=hle m j x u hj hx hu;omega
 have hba:b=a:=s6
 subst hba;refine gH ?_ ?_<;>intro h2
 .have hn:xs[b]? =none:=fT s6;refine go ?_;exact gQ (b,false) ⟨by show b<=_;omega,hlo,hhi,by show false=true↔xs[b]? =some z;rw[hn];simp⟩
 refine go ?_;intro _ _ x hx;refine go ?_;by_cases hxz:x=z
 .subst hxz;rw[eB rfl];refine go ?_;exact gQ (b,true) ⟨by show b<=_;omega,hlo,hhi,by show true=true↔xs[b]? =some x;simp[hx]⟩
 .rw[dA hxz];refine go ?_;intro _ _ x2 hx2;refine gC (anw (x:=x2)) λ_ _=>?_;refine go ?_;exact gQ (b,false) ⟨by show b<=_;omega,hlo,hhi,by show false=true↔xs[b]? =some z;rw[hx];simp[hxz]⟩
def ack{aF:ae (Int×aj.Y)}(hl:aF.length<=4096):aY prog (.func 66) [v] [] [] [vY aj v aF] (λv':ah=>v') (λv'=>[ar aj v' aF]) (λ_=>[]) (λ_=>True):=by
 refine l7 PM UT λB w0=>?_;refine UM (v:=v) (aF:=aF) aj (λe c ev=>?_) (λe i o f c ev=>?_) (λhne i o f c ev=>?_)
 .subst e ev;refine go ?_;refine(dx rfl rfl (GK (e:=3) s8 rfl)).h ?_;refine go ?_;refine UN aj ?_;exact qS
 .subst e ev;refine go ?_;refine(dx rfl rfl (zK (e:=3) s8 rfl)).h ?_;refine go ?_;intro b;refine go ?_;refine J7 (b:=b) ?_;refine go ?_;refine xz (b:=b) (m:=0) (f:=0) aj (aF:=[]) rfl (.inl rfl) ?_ (hk:=aD.here);exact mN
 .subst ev;refine go ?_;refine(dx rfl rfl (zK (e:=3) s8 rfl)).h ?_;refine go ?_;intro b;refine go ?_;refine J8 (b:=b) aj aF hne s6 (λb'=>?_);refine go ?_;refine xz (b:=b') (m:=aF.length) (f:=aj.n) aj (aF:=aF) rfl (.inr rfl) ?_ (hk:=aD.here);exact gQ (.slice (some ⟨b',0,some aj.n⟩) aF.length aF.length) trivial
abbrev KU:ae ah:=[iV 0,iV 0,iV 0,.slice none 0 0,.slice none 0 0]
abbrev oG(g:bY)(vh vc:ah):ae ah:=[iV g.shape,iV g.w,iV g.h,vh,vc]
abbrev tY(g:bY)(vh vc:ah):ae aI:=[ay aj vh g.holes,ay aj vc g.cells]
structure UX where
 ok:Bool
 vh:Value
 vc:Value
def EU(s w h:Int)(holes:ae Int):bY:=⟨s,w,h,holes,wu w h holes⟩
abbrev mkV(s w h:Int)(holes:ae Int)(y:UX):ah:=.tuple ⟨[.agg ⟨cond y.ok (oG (EU s w h holes) y.vh y.vc) KU⟩,iV (cond y.ok 0 130)]⟩
abbrev zU(s w h:Int)(holes:ae Int)(y:UX):ae aI:=cond y.ok (tY (EU s w h holes) y.vh y.vc) []
def Bp(xs:ae Int):Int:=xs.getLast?.getD (-1)
def anz(xs:ae Int)(x:Int):Bp (xs++[x])=x:=by simp[Bp]
def anA(h:∀x∈xs,0<=x): -1<=Bp xs:=by
 unfold Bp;cases hx:xs.getLast? with
 |none=>simp
 |some x=>
  have:=h x (List.mem_of_getLast? hx);simp only[Option.getD_some];omega
def anB(h:xs.Pairwise (·<·)){a:Int}(ha:a∈xs):a<=Bp xs:=by
 unfold Bp;cases hx:xs.getLast? with
 |none=>rw[List.getLast?_eq_none_iff]at hx;subst hx;cases ha
 |some x=>
  obtain⟨ys,rfl⟩:=List.getLast?_eq_some_iff.1 hx;simp only[Option.getD_some];rcases fU.1 ha with h1|h1
  .have:=(Mi.1 h).2.2 a h1 x (bR.2 rfl);omega
  .rw[bR.1 h1];exact Int.le_refl _
def anC{k:Nat}(h:xs.Pairwise (·<·))(hx:xs[k]? =some x)(h0:0<=x):Bp (xs.take k)<x:=by
 unfold Bp;cases hl:(xs.take k).getLast? with
 |none=>simp only[Option.getD_none];omega
 |some y=>
  simp only[Option.getD_some];have hy:=List.mem_of_getLast? hl;have hd:xs=xs.take k++x::xs.drop (k+1):=by
   conv=>lhs;rw[<- l5 k xs]
   rw[mX (bz.1 hx).1,(bz.1 hx).2]
  rw[hd]at h;exact(Mi.1 h).2.2 y hy x (eX ..)
def UY{s w h:Int}{holes:ae Int}{vh:ah}(hw64:mK w)(au8:mK h)(hl:holes.length<4611686018427387904):
 aY prog (.func 228) [iV s,iV w,iV h,vh] [] [] [ay aj vh holes] (mkV s w h holes) (λ_=>[]) (zU s w h holes) (λy=>y.ok=true↔wo s w h holes):=by
 have bad:¬wo s w h holes->∀{B:ae Nat} {w0:Wd} {kl:ae OA} {F:ae aI} {l:qr} {n b:Nat} {bA:ae OA},lk l 8=ptr' b->lk l 9=iV 130->aD (pt b (.cells KU)) kl bA->
  R (λh0=>zy UU (Go.Ideal.Left B w0 (mkV s w h holes) (λ_=>[]) (zU s w h holes) (λy=>y.ok=true↔wo s w h holes)) .ret (act n l [] none none) h0) B w0 kl F:=by
  intro hno B w0 kl F l n b bA h8 h9 hk;refine Y8 (bA:=kl) ⟨false,.nilFunc,.nilFunc⟩ (vs:=[.agg ⟨KU⟩,iV 130]) ?_ rfl ⟨(λe=>by cases e),λe=>absurd e hno⟩ .nil .nil (.inr rfl);show RS l kl [.pX 5 8,.tmp 9] _;exact .pX h8 hk rfl (.tmp h9 .nil)
 refine l7 UU anu λB w0=>?_;refine go ?_;intro b8;refine go ?_;by_cases hsh:s=1\/s=2
 rotate_left
 .rw[eB (show s≠1 from λe=>hsh (.inl e))];refine go ?_;rw[eB (show s≠2 from λe=>hsh (.inr e))];refine go ?_;exact bad (λh=>hsh h.sh) rfl rfl .here
 have hmk:∀sh,(sh=1\/sh=2)->(wo sh w h holes↔wo s w h holes):=λsh e=>⟨λq=>⟨hsh,q.wi,q.he,q.len,q.inc,q.mem⟩,λq=>⟨e,q.wi,q.he,q.len,q.inc,q.mem⟩⟩
 have h22:∀{B:ae Nat} {w0:Wd} {kl:ae OA} {F:ae aI} {K:KO} {ds:ae Tmp} {rest:ae bV} {n:Nat} {l:qr} {D:ae Deferred},
  R (λh0=>aO prog ds rest (act n ((22,.bool false)::(21,.bool false)::l) D none none) h0 K) B w0 kl F->R (λh0=>aO prog ds rest (act n ((22,.bool false)::(21,.bool false)::l) D none none) h0 K) B w0 kl F:=λh=>h
 rcases hsh with rfl|rfl;all_goals
  refine gH ?_ ?_<;>intro a1
  rotate_left
  .exact p0
  refine gH ?_ ?_<;>intro a2
  rotate_left
  .exact p0
  refine gH ?_ ?_<;>intro a3
  rotate_left
  .exact qe
  refine gH ?_ ?_<;>intro a4
  rotate_left
  .exact qe
  have hwh:=G9 (w:=w) (h:=h) ⟨s6,s6⟩ ⟨s6,s6⟩;refine aK ?_ ?_<;>intro a5
  .refine go ?_;exact bad (λq=>by have:=q.len;omega) rfl rfl .here
  refine gL (λk=>holes.length - k) (λk:Nat=>[(49,iV (k:Int)),(10,iV (Bp (holes.take k)))]) (λk=>k<=holes.length/\(holes.take k).Pairwise (·<·)/\∀x∈holes.take k,0<=x/\x<w*h) 0 ⟨bI _,s7,s7⟩ ?_;rintro k ⟨hk,uU,hmem⟩;refine aK ?_ ?_<;>intro a6
  .refine go ?_;intro _ _ x hx;refine go ?_;have hxm:=aV hx;refine gG ?_ ?_<;>intro a7
   rotate_left
   .refine go ?_;exact bad (λq=>by
     have h1:=q.inc;have h2:=q.mem x hxm;have:=anC h1 hx h2.1;omega) rfl rfl .here
   refine aK ?_ ?_<;>intro a8
   .refine go ?_;exact bad (λq=>by have:=q.mem x hxm;omega) rfl rfl .here
   refine go ?_;have htk:holes.take (k+1)=holes.take k++[x]:=by rw[rP,hx];rfl
   refine aW (k+1) s6 ⟨s6,?_,?_⟩ (hl:=⟨rfl,by rw[htk,anz];rfl,ur⟩)
   .rw[htk,Mi];refine⟨uU,s7,λa ha b hb=>?_⟩;rw[bR.1 hb];have:=anB uU ha;omega
   .rw[htk];intro z hz;rcases fU.1 hz with hz|hz
    .exact hmem z hz
    .rw[bR.1 hz];have:=anA (λy hy=>(hmem y hy).1);omega
  have hkl:k=holes.length:=s6
  subst hkl;rw[dK]at uU hmem;have hok:∀s',(s'=1\/s'=2)->wo s' w h holes:=λs' hs'=>⟨hs',⟨s6,s6⟩,⟨s6,s6⟩,s6,uU,hmem⟩
  obtain⟨m,hm⟩:=dW (show 0<=w*h by omega);have anD:wu w h holes=lX m holes:=by
   unfold wu;rw[hm];rfl
  refine go ?_;refine J6 aj vh (λxh hxh=>?_);have hxl:xh.length=holes.length:=by rw[<- hxh,bi]
  refine fH (ack (aF:=xh) s6) (next:=λv1 _=>?_);refine Oy (E:=aj) (v:=v1) (aF:=xh) ?_ (λw h p hp f hf=>by cases hf);rw[hxh];refine gF aj v1 holes λa1 c1 e1=>?_;subst e1;refine go ?_;rw[hm];refine kv aj ?_;refine dL (λy:Nat×az Addr=>m - y.1) (λy=>[(75,iV (y.1:Int))]) (λy=>[pt b8 (.cells [iV _,iV w,iV h,.slice a1 holes.length c1,.slice y.2 (lX y.1 holes).length (lX y.1 holes).length]),ap aj (.slice y.2 (lX y.1 holes).length (lX y.1 holes).length) (lX y.1 holes)]) (λ_=>[]) (λy=>y.1<=m) (0,none) (bI _) (hk:=tc) (body:=?_);rintro⟨k,ad⟩ hk;dsimp only at hk⊢;have hcl:=OW k holes;refine aK ?_ ?_<;>intro a9
  .refine gC (acj (xs:=holes) (z:=(k:Int)) hl (uU.imp (λh=>Int.le_of_lt h))) λy hy=>?_;have hmm:=hy.mem uU;clear hy;obtain⟨n,b⟩:=y;dsimp only at hmm;refine go ?_;cases b with
   |true=>
    refine go ?_;have e1:lX (k+1) holes=lX k holes:=by rw[aaE,if_pos (hmm.1 rfl),jo]
    rw[<- e1];exact aW (k+1,ad) (by show m - (k+1)<m - k;omega) (by show k+1<=m;omega)
   |false=>
    have hnm:¬(k:Int)∈holes:=λh=>by have:=hmm.2 h;cases this
    have e1:lX k holes++[(k:Int)]=lX (k+1) holes:=by rw[aaE,if_neg hnm]
    have e2:(lX k holes).length+1=(lX (k+1) holes).length:=by rw[<- e1];simp
    refine go ?_;intro b89;refine go ?_;refine jy aj (xs:=lX k holes) (k:Int) () s6 λad'=>?_;rw[e1,e2];refine go ?_;exact aW (k+1,ad') (by show m - (k+1)<m - k;omega) (by show k+1<=m;omega)
  have hkm:k=m:=s6
  subst hkm;refine go ?_;refine mI ja (A:=ap aj (.slice ad (lX k holes).length (lX k holes).length) (lX k holes)) (h:=?_);refine go ?_;refine gQ ⟨true,.slice a1 holes.length c1,.slice ad (lX k holes).length (lX k holes).length⟩ ⟨λ_=>hok _ (by first|exact .inl rfl|exact .inr rfl),λ_=>rfl⟩ (hF:=?_);show Sub [ay aj _ holes,ay aj _ (wu w h holes)] _;rw[anD];exact .cons s7 (.cons s7 .nil)
end Go.Proofs.YtgimfpcgbmpkhaaGreat
namespace Go.Proofs.YtgimfpcgbmpkhaaGreat
open Tryz (prog)
open Go.Ideal Kd
structure zV(g:bY):Prop where
 w:mK g.w
 h:mK g.h
 holes:g.holes.length<4611686018427387904
 cells:g.cells.length<4611686018427387904
variable{g:bY}{vh vc:ah}
def UZ(hS:zV g):
 fC prog 242 [.agg ⟨oG g vh vc⟩] (tY g vh vc) (λe:Int=>iV e) (λe=>e=0↔ig g):=by
 refine gB 242 λB w0=>?_;refine go ?_;intro b1;refine gC (UY (s:=g.shape) (w:=g.w) (h:=g.h) (holes:=g.holes) (vh:=vh) hS.w hS.h hS.holes) λy hy=>?_;obtain⟨ok,v1,v2⟩:=y;cases ok with
 |false=>
  have hno:¬wo g.shape g.w g.h g.holes:=λh=>by have:=hy.2 h;cases this
  dsimp only[mkV,zU,cond,List.nil_append];refine go ?_;intro b3;refine go ?_;exact gQ 130 ⟨(λh=>by cases h),λh=>absurd h.make hno⟩
 |true=>
  have hmk:=hy.1 rfl;dsimp only[mkV,zU,cond,tY,EU,List.cons_append,List.nil_append];refine go ?_;intro b3;refine gC (wC (xs:=wu g.w g.h g.holes) (ys:=g.cells) (by
   have:=OW (g.w*g.h).toNat g.holes;have:=G9 hmk.wi hmk.he;unfold wu;omega)) λ_ _=>?_
  refine go ?_;refine qW rfl (λh1=>?_) (λh1=>?_)
  .refine go ?_;exact gQ 130 ⟨(λh=>by cases h),λh=>absurd h.cells.symm h1⟩
  .refine go ?_;exact gQ 0 ⟨λ_=>⟨hmk,h1.symm⟩,λ_=>rfl⟩
abbrev anF(x:Int×(Int×Int)):ae ah:=[iV x.1,jl x.2]
def U0{b1:Nat}(hg:ig g):CO prog anF (.func 335) [] [ptr' b1] [aX b1 0 (oG g vh vc),ay aj vc g.cells] (λxs=>xs=bK g):=by
 intro S inv ok step s0 oM y1 y2 F' h0 hok hy;have hgl:=hg.len;have nC:=hg.make.wi;rw[bQ,bQ,bP];refine gB 335 λB w0=>?_;refine go ?_;refine dL (λy:Nat×S=>g.cells.length - y.1) (λy=>[(10,iV (y.1:Int))]) (λy=>inv y.2) (λ_=>[]) (λy=>y.1<=g.cells.length/\ok ((bK g).take y.1) y.2/\cz step y.2 ((bK g).drop y.1)=cz step s0 (bK g)) (0,s0) ⟨bI _,h0,rfl⟩ (body:=?_);rintro⟨k,s⟩ ⟨hk,hos,hrun⟩;dsimp only at hk hos hrun⊢;refine aK ?_ ?_<;>intro h1
 .refine go ?_;intro _ _ x hx;have hxb:=hg.cell x (aV hx);have hsp:=CY hx;have hd:(bK g).drop k=((k:Int),kX g x)::(bK g).drop (k+1):=by
   rw[mX ya];congr 1;rw[bN ya]at hsp;exact Option.some.inj hsp
  have hX:(bK g).take k++((k:Int),kX g x)::(bK g).drop (k+1)=bK g:=by rw[<- hd,l5]
  refine go ?_;refine(dx rfl rfl (NV (a:=x) (b:=g.w) rfl rfl s6)).h ?_;refine go ?_;have hq:0<=x.tdiv g.w/\x.tdiv g.w<=x:=by
   exact j7
  have hr:0<=x.tmod g.w/\x.tmod g.w<=x:=by
   exact ez
  refine(dx rfl rfl (NU (a:=x) (b:=g.w) rfl rfl s6 s6 s6)).h ?_;refine aK ?_ ?_<;>intro h2
  .have hso:kX g x=(x.tmod g.w - (x.tdiv g.w).tdiv 2,x.tdiv g.w):=by unfold kX;rw[if_pos h2]
   have hq2:0<=(x.tdiv g.w).tdiv 2/\(x.tdiv g.w).tdiv 2<=x.tdiv g.w:=by
    rw[zk hq.1];omega
   rw[hso]at hX hd;have fQ:=hy _ s _ _ hos hX;refine go ?_;refine(dx rfl rfl (NU (a:=x.tdiv g.w) (b:=2) rfl rfl s6 s6 s6)).h ?_;exact cW
  .have hso:kX g x=(x.tmod g.w,x.tdiv g.w):=by unfold kX;rw[if_neg h2]
   rw[hso]at hX hd;have fQ:=hy _ s _ _ hos hX;exact cW
 have hkl:k=(bK g).length:=ya
 rw[hkl,DY]at hrun;refine go ?_;exact gQ (bK g) rfl (hk:=wq)
end Go.Proofs.YtgimfpcgbmpkhaaGreat
namespace Go.Proofs.YtgimfpcgbmpkhaaGreat
open Tryz (prog)
open Go.Ideal Kd
def U4:JK (vN prog uB uC):=M9 _ _ _ (λf q h v h' hm=>by cases hm)
def anG(h:IH)(K:BR):(Q5 (vN prog uB uC) 1000).call ⟨.func 217,[.int .u64 0],[],none⟩ h K=K (.ok (iV 0)) none h:=s8
def anH:dO prog 217 [.int .u64 0] [] (iV 0):=λB w s=>by
 have h2:=anG w.h λr pm h'=> @decide (pm=none/\r=.ok (iV 0)/\h'=w.h) (Classical.propDecidable _);have h1:=ahY U4 (h2.trans (@eB _ (Classical.propDecidable _) ⟨rfl,rfl,rfl⟩));refine .vQ _ h1 λr pm h' hg=>?_;obtain⟨rfl,rfl,rfl⟩:= @jI _ (Classical.propDecidable _) hg;exact⟨rfl,w,(),rfl,s,rfl,trivial⟩
variable{a:az Addr}{c:Nat}
def anI:dO prog 317 [.slice a 0 c,iV 0,iV 0] [] (.tuple ⟨[]⟩):=by
 refine gB 317 λB w0=>?_;refine go ?_;refine qY ?_;exact dH
def anJ:dO prog 261 [.slice a 0 c,iV 0,iV 0,iV 0] [] (.tuple ⟨[]⟩):=by
 refine gB 261 λB w0=>?_;refine go ?_;refine qY ?_;refine gC (anI (a:=a) (c:=c)) λ_ _=>?_;exact dH
def anK:dO prog 218 [.slice a 0 c] [] (.tuple ⟨[]⟩):=by
 refine l7 UR aci λB w0=>?_;refine go ?_;refine(dx rfl rfl (xA (k:=.u64) (m:=0) (by kernel_rfl:prog.underlying 3=some (.int .i64)) s8 rfl (by rfl))).h ?_;refine fH anH (next:=λ_ _=>?_);refine gC (anJ (a:=a) (c:=c)) λ_ _=>?_;exact dH
def anL:∃fn body,prog.funcs[218]? =some fn/\fn.body=some body/\fn.name≠ "runtime.NumGoroutine" :=by
 obtain⟨fn,h1,h2⟩:=U4.fn 218 UR aci;have h3:prog.funcs[218]? =some fn:=h1;have h4:(fn.name== "runtime.NumGoroutine")=false:=by
  have e:(prog.funcs[218]?).map (λf=>f.name== "runtime.NumGoroutine")=some false:=s8
  exact od
 have h5:fn.body.isSome=true:=by
  have e:(prog.funcs[218]?).map (λf=>f.body.isSome)=some true:=s8
  exact od
 exact px
def KW{m:Nat}{zs:ae Int}(hm:m=zs.length)(hl:zs.length<4611686018427387904):
 aY prog (.func 218) [.slice a m m] [] [ap aj (.slice a m m) zs] [] (λ_:Unit=>.tuple ⟨[]⟩) (λ_=>[ap aj (.slice a m m) (bW zs)]) (λ_=>[]) (λ_=>True):=by
 subst hm;obtain⟨fn,body,h1,h2,h3⟩:=anL;by_cases hz:zs=[]
 .subst hz;have e:bW []=[]:=by simp[bW]
  rw[e];intro B w s;obtain⟨S1,s1,back⟩:=s.Om (k1:=[]) (bA:=[ap aj (.slice a 0 0) []]) (F1:=[]) .nil .nil;refine .vQ _ (anK (a:=a) (c:=0) S1 w s1) ?_;exact n5
 .exact ajQ srt h1 h2 h3 (WZ.2 hz) hl
def acm:rY prog 331 jl:=ajX (e:=3) s8 s8 s8 (λa b=>by kernel_rfl)
variable{g:bY}{vh vc:ah}
def U5:aY prog (.func 298) [.agg ⟨oG g vh vc⟩] [] [] (tY g vh vc) (λb:Nat=>.func (.func 335) #[] #[ptr' b]) (λ_=>[]) (λb=>[aX b 0 (oG g vh vc),ay aj vc g.cells]) (λ_=>True):=by
 refine gB 298 λB w0=>?_;refine go ?_;intro b1;refine go ?_;refine gP b1 ?_;exact gQ b1 trivial
def lc(c:Prop)(f:aI):aI:=⟨λw=>c->f.p w,λa h e=>f.mono a (h e)⟩
variable{B:ae Nat}{w0:Wd}{kl:ae OA}{F:ae aI}{Q:IH->Prop}{f:aI}
def tZ{c:Prop}(hc:¬c)(h:R Q B w0 kl (lc c f::F)):R Q B w0 kl F:=fA (lc c f) (λw _ e=>absurd e hc) h
def uY{c:Prop}(hf:f∈F)(h:R Q B w0 kl (lc c f::F)):R Q B w0 kl F:=fA (lc c f) (λw hw _=>hw f hf) h
structure U6 where
 v:Value
 e:Int
abbrev H8(y:U6):ah:=.tuple ⟨[y.v,iV y.e]⟩
def PN{S α:Type}(f:S->α->S):∀(xs:ae α) (s:S),gM (λs x=>(f s x,Out.normal)) s xs=(xs.foldl f s,.normal)
 |[],s=>rfl
 |x::xs,s=>by
  show gM (λs x=>(f s x,Out.normal)) (f s x) xs=_;rw[PN f xs];rfl
section
variable {P:Program} {B:ae Nat} {w0:Wd} {kl kl':ae OA} {F:ae aI} {Q:IH->Prop}
def anM{b:Nat}{cs cs':ae ah}(e:cs=cs')(h:R Q B w0 (pt b (.cells cs')::kl') F)(hk:aD (pt b (.cells cs)) kl kl':=by exact dG):R Q B w0 kl F:=by
 subst e;exact λw s=>h w (s.fB hk)
def EW{α:Type}{E:Enc α}{v:ah}{xs:ae α}(h:∀a,v=.slice a xs.length xs.length->R Q B w0 kl F)(hk:aD (ap E v xs) kl kl':=by exact dG):R Q B w0 kl F:=λw s=>by
 obtain⟨S,⟨S1,S2,q,_⟩,_⟩:=(s.fB hk).own;obtain⟨a,e⟩:=SH q;exact h a e w s
end
abbrev PO(b n:Nat):ah:=.slice (some ⟨b,0,some 0⟩) n n
def acn(hS:zV g):
 aY prog (.func 229) [.agg ⟨oG g vh vc⟩] [] [] (tY g vh vc) H8 (λ_=>[]) (λy=>[lc (y.e=0) (ay (xB aj) y.v (gI g))]) (λy=>y.e=0↔ig g):=by
 refine zD _ (pY 229) λB w0=>?_;refine go ?_;intro b1 b2;refine gC (UZ (g:=g) hS) λe he=>?_;refine aK ?_ ?_<;>intro h1
 .refine go ?_;refine tZ (c:=(130:Int)=0) (f:=ay (xB aj) (.slice none 0 0) (gI g)) s6 ?_;exact uO ⟨.slice none 0 0,130⟩ (hv:=rfl) (hp:=⟨(λh=>by cases h),λh=>absurd (he.2 h) h1⟩)
 have hg:=he.1 s6;have hgl:=hg.len;have hsb:=OY hg;have hsl:=r9 g;refine go ?_;intro b4 b5;refine go ?_;refine Zn (bA:=[pt b4 (.cells He),pt b2 (.cells [.slice none 0 0]),pt b1 (.cells (oG g vh vc))]) [] (λ_:Unit=>[]) (λ_=>[pt b5 (.cells [iV (eT g:Int)])]) (λ_=>[]) (λ_=>True) (hx:=?_) (hy:=?_)
 .refine rU rfl ?_ ?_<;>intro h2
  .refine go ?_;rw[show(4:Int)=(eT g:Int)by unfold eT;rw[if_pos h2];rfl];exact Oj () trivial
  .refine go ?_;rw[show(6:Int)=(eT g:Int)by unfold eT;rw[if_neg h2];rfl];exact Oj () trivial
 intro _ _;refine go ?_;refine yB jl (λbm=>?_);refine go ?_;intro b6;refine gC (U5 (g:=g) (vh:=vh) (vc:=vc)) λbs _=>?_;refine go ?_;refine Ox (Z:=Nat) (λ(m:ae ((Int×Int)×ah)) (x:Int×(Int×Int))=>(upd x.2 (iV x.1) m,.normal)) (λm=>[ic jl bm m,pt b6 (.cells [.map (some bm)])]) (λvs m=>m=gD vs) [] _ (λx b8=>[pt b8 (.cells [iV x.2.1,iV x.2.2])]) rfl (λvs s x rest hs _ _=>by rw[hs,TR]) (U0 (b1:=bs) (vh:=vh) (vc:=vc) hg) AW ?_ ?_ (λ_ _=>trivial)
 .intro vs s x rest b8 lo L B w0 hs hX;dsimp only[List.cons_append,List.nil_append];refine go ?_;refine vX acm x.2 (v:=iV x.1) ?_;refine go ?_;exact dy
 intro r1 xs hxs;subst hxs;rw[PN (λ(m:ae ((Int×Int)×ah)) (x:Int×(Int×Int))=>upd x.2 (iV x.1) m)];dsimp only[List.cons_append,List.nil_append];rw[show(bK g).foldl (λ(m:ae ((Int×Int)×ah)) (x:Int×(Int×Int))=>upd x.2 (iV x.1) m) []=gD (bK g)from rfl];refine gZ (EH (b:=bm)) ?_;refine gP b6 ?_;refine go ?_;refine qA g.cells.length ⟨s6,s6,s6⟩ λbl=>?_;rw[show zeros [.slice none 0 0] g.cells.length=List.replicate g.cells.length (.slice none 0 0)from JN _ _];refine aj7 (nP aj) (x0:=([]:ae Int)) (λw=>⟨.inl ⟨rfl,rfl,rfl⟩,λ_=>rfl⟩) (h:=?_);refine gC (U5 (g:=g) (vh:=vh) (vc:=vc)) λbs2 _=>?_;refine go ?_;refine gP b4 ?_;refine gP b5 ?_;have hml:(fO.take (eT g)).length=eT g:=by rw[gW];show min (eT g) 6=_;have:=EN g;omega
 refine fA (ay uR (.slice (some ⟨b4,0,some 0⟩) (eT g) 6) (fO.take (eT g))) (λw h=>ak9 (h (aX b4 0 He) (fP _ (eX ..))) (EN g)) ?_;refine Ox (Z:=Nat) (λ(xss:ae (ae Int)) (x:Int×(Int×Int))=>(xss.set x.1.toNat (pF g x),.normal)) (λxss=>[qB (nP aj) bl xss,pt b2 (.cells [PO bl g.cells.length])]) (λvs xss=>xss=vs.map (pF g)++List.replicate (g.cells.length - vs.length) []) (List.replicate g.cells.length []) _ (λx b10=>[pt b10 (.cells [iV x.2.1,iV x.2.2])]) s7 (λvs s x rest hs hX _=>by
  have h1:=OZ hX;rw[hs,h1.1];have:=aaG (A:=vs.map (pF g)) (n:=g.cells.length) (by rw[bi];exact h1.2.1) (pF g x);rw[bi]at this;rw[fI,this,bZ,fu];rfl) (U0 (b1:=bs2) (vh:=vh) (vc:=vc) hg) AW ?_ ?_ (λ_ _=>trivial)
 .intro vs xss x rest b10 lo L B w0 hs hX;dsimp only[List.cons_append,List.nil_append];obtain⟨hc,hvl,hxm⟩:=OZ hX;have hbx:=hsb x hxm;obtain⟨c,s1,s2⟩:=x;dsimp only at hc hbx;subst hc;have hxk:xss[vs.length]? =some []:=by
   rw[hs,sN s7,bi,um,aeS,if_pos s6]
  have hxl:xss.length=g.cells.length:=by rw[hs];simp;omega
  refine go ?_;refine(dx rfl rfl (alc (m:=eT g) rfl rfl (EN g))).h ?_;refine go ?_;refine Kh (A:=qB (nP aj) bl xss) (A':=qB (nP aj) bl (xss.set vs.length (iL (gD (bK g)) (s1,s2) ((fO.take (eT g)).take 0)))) (congrArg (qB (nP aj) bl) (by
   apply iQ;intro i;rw[rM];by_cases hi:vs.length=i
   .subst hi;rw[if_pos rfl,if_pos s6,hxk];rfl
   .rw[if_neg hi])) ?_
  refine dL (λj=>eT g - j) (λj:Nat=>[(47,iV (j:Int))]) (λj=>[qB (nP aj) bl (xss.set vs.length (iL (gD (bK g)) (s1,s2) ((fO.take (eT g)).take j)))]) (λ_=>[]) (λj=>j<=eT g) 0 (bI _) (body:=?_);intro j hj;refine aK ?_ ?_<;>intro h2
  .refine go ?_;obtain⟨dd,hd⟩:∃dd,(fO.take (eT g))[j]? =some dd:=⟨_,bN s6⟩
   have hdb:=ala dd (FL (aV hd));have hdv:jR (kD He (j*2)) 2=some [iV dd.1,iV dd.2]:=alb (j:=j) (d:=dd) (by rw[wP]at hd;split at hd;exact hd;cases hd)
   have hnr:=ak8 (gD (bK g)) (s1,s2) ((fO.take (eT g)).take j) dd;rw[<- fq hd]at hnr;have hnl:=OX (gD (bK g)) (s1,s2) ((fO.take (eT g)).take j);have hjm:=EN g;rw[gW]at hnl;obtain⟨d1,d2⟩:=dd;dsimp only at hdb hdv hnr;refine(SF (o:=0) (j:=j*2) (cs:=He) rfl rfl rfl (fP _ (fP _ (eX ..))) hdv).h ?_;refine go ?_;intro b12;refine go ?_;refine(dx rfl rfl (Gu (a:=s1) (b:=d1) rfl rfl s6 s6)).h ?_;refine go ?_;refine(dx rfl rfl (Gu (a:=s2) (b:=d2) rfl rfl s6 s6)).h ?_;refine go ?_;refine abX acm (s1+d1,s2+d2) (λv hv hm=>?_) (λhm=>?_)
   .obtain⟨c,rfl,hc⟩:=aaF _ _ hv;rw[hv]at hnr;refine go ?_;refine Z7 (nP aj) (b:=bl) (xss:=xss.set vs.length (iL (gD (bK g)) (s1,s2) ((fO.take (eT g)).take j))) (k:=vs.length) (xs:=iL (gD (bK g)) (s1,s2) ((fO.take (eT g)).take j)) Fl (h:=λws v KX hv2=>?_);rw[lu]at KX;refine Z9 aj v (iL (gD (bK g)) (s1,s2) ((fO.take (eT g)).take j)) (λhz=>?_);refine oN (o:=0+vs.length*1) (cs:=ws) v (by rw[gq,lU];exact hv2) ?_;refine go ?_;intro b43;refine go ?_;refine ZV (xs:=iL (gD (bK g)) (s1,s2) ((fO.take (eT g)).take j)) aj c () s6 (next:=λad=>?_);rw[show iL (gD (bK g)) (s1,s2) ((fO.take (eT g)).take j)++[c]=iL (gD (bK g)) (s1,s2) ((fO.take (eT g)).take (j+1))from hnr.symm];refine go ?_;refine jN (o:=0+vs.length*1) (cs:=ws) (v:=.slice ad ((iL (gD (bK g)) (s1,s2) ((fO.take (eT g)).take j)).length+1) ((iL (gD (bK g)) (s1,s2) ((fO.take (eT g)).take j)).length+1)) (cs':=ws.set vs.length (.slice ad ((iL (gD (bK g)) (s1,s2) ((fO.take (eT g)).take j)).length+1) ((iL (gD (bK g)) (s1,s2) ((fO.take (eT g)).take j)).length+1))) (by rw[gq,lU]) s6 ?_;refine aaa aj (.slice ad ((iL (gD (bK g)) (s1,s2) ((fO.take (eT g)).take j)).length+1) ((iL (gD (bK g)) (s1,s2) ((fO.take (eT g)).take j)).length+1)) (iL (gD (bK g)) (s1,s2) ((fO.take (eT g)).take (j+1))) (λe=>by rw[hnr]at e;exact absurd e (by show¬(_++[c]=[]);simp)) ?_;refine Z8 (nP aj) (b:=bl) (xss:=xss.set vs.length (iL (gD (bK g)) (s1,s2) ((fO.take (eT g)).take j))) (vs:=ws) (k:=vs.length) (xs:=iL (gD (bK g)) (s1,s2) ((fO.take (eT g)).take (j+1))) (by rw[lu];exact KX) (by rw[lu];omega) (h:=?_);rw[List.set_set];exact dg
   .rw[wm hm]at hnr;refine go ?_;refine Kh (A:=qB (nP aj) bl (xss.set vs.length (iL (gD (bK g)) (s1,s2) ((fO.take (eT g)).take j)))) (A':=qB (nP aj) bl (xss.set vs.length (iL (gD (bK g)) (s1,s2) ((fO.take (eT g)).take (j+1))))) (congrArg (qB (nP aj) bl) ((by rw[hnr];exact congrArg (xss.set vs.length) (jo _).symm))) ?_;exact aW (j+1) s6 s6
  have hjl:j=eT g:=s6
  subst hjl;refine Kh (A:=qB (nP aj) bl (xss.set vs.length (iL (gD (bK g)) (s1,s2) ((fO.take (eT g)).take (eT g))))) (A':=qB (nP aj) bl (xss.set vs.length (iL (gD (bK g)) (s1,s2) (fO.take (eT g))))) (congrArg (qB (nP aj) bl) ((congrArg (λz=>xss.set vs.length (iL (gD (bK g)) (s1,s2) z)) (Ag (Nat.le_of_eq hml))))) ?_;refine go ?_;refine Z7 (nP aj) (b:=bl) (xss:=xss.set vs.length (iL (gD (bK g)) (s1,s2) (fO.take (eT g)))) (k:=vs.length) (xs:=iL (gD (bK g)) (s1,s2) (fO.take (eT g))) Fl (h:=λws v KX hv2=>?_);rw[lu]at KX;refine Z9 aj v (iL (gD (bK g)) (s1,s2) (fO.take (eT g))) (λhz=>?_);refine oN (o:=0+vs.length*1) (cs:=ws) v (by rw[gq,lU];exact hv2) ?_;have hn6:=OX (gD (bK g)) (s1,s2) (fO.take (eT g));rw[hml]at hn6;have hjm:=EN g;refine EW (E:=aj) (v:=v) (xs:=iL (gD (bK g)) (s1,s2) (fO.take (eT g))) λa hv=>?_;subst hv;refine fH (KW (a:=a) (zs:=iL (gD (bK g)) (s1,s2) (fO.take (eT g))) rfl s6) (next:=λ_ _=>?_);refine anM (b:=bl) (cs:=ws) (cs':=ws.set vs.length (.slice a (iL (gD (bK g)) (s1,s2) (fO.take (eT g))).length (iL (gD (bK g)) (s1,s2) (fO.take (eT g))).length)) (ald hv2).symm ?_;refine aaa aj (.slice a (iL (gD (bK g)) (s1,s2) (fO.take (eT g))).length (iL (gD (bK g)) (s1,s2) (fO.take (eT g))).length) (bW (iL (gD (bK g)) (s1,s2) (fO.take (eT g)))) (λe=>hz (pU.1 (by rw[<- AX,e];rfl))) ?_;refine Z8 (nP aj) (b:=bl) (xss:=xss.set vs.length (iL (gD (bK g)) (s1,s2) (fO.take (eT g)))) (vs:=ws) (k:=vs.length) (xs:=bW (iL (gD (bK g)) (s1,s2) (fO.take (eT g)))) (by rw[lu];exact KX) (by rw[lu];omega) (h:=?_);refine Kh (A:=qB (nP aj) bl ((xss.set vs.length (iL (gD (bK g)) (s1,s2) (fO.take (eT g)))).set vs.length (bW (iL (gD (bK g)) (s1,s2) (fO.take (eT g)))))) (A':=qB (nP aj) bl (xss.set ((vs.length:Int)).toNat (pF g ((vs.length:Int),s1,s2)))) (congrArg (qB (nP aj) bl) ((by rw[List.set_set,fI];rfl))) ?_;refine go ?_;exact pE () rfl trivial trivial
 intro r2 EX anP;subst anP;rw[PN (λ(xss:ae (ae Int)) (x:Int×(Int×Int))=>xss.set x.1.toNat (pF g x))];dsimp only[List.cons_append,List.nil_append];rw[show(bK g).foldl (λ(xss:ae (ae Int)) (x:Int×(Int×Int))=>xss.set x.1.toNat (pF g x)) (List.replicate g.cells.length [])=gI g from ale g];refine gZ (aj8 (A:=nP aj) (E:=xB aj) (b:=bl) (xss:=gI g) (c:=(gI g).length) (λv=>v) rfl (λ_ _=>rfl) (λv xs=>aj9)) ?_;rw[yF];refine go ?_;refine uY (c:=(0:Int)=0) (f:=ay (xB aj) (.slice (some ⟨bl,0,some 0⟩) g.cells.length g.cells.length) (gI g)) s7 ?_;exact uO ⟨.slice (some ⟨bl,0,some 0⟩) g.cells.length g.cells.length,0⟩ (hv:=rfl) (hp:=⟨λ_=>hg,λ_=>rfl⟩)
end Go.Proofs.YtgimfpcgbmpkhaaGreat
namespace Go.Proofs.YtgimfpcgbmpkhaaGreat
open Tryz (prog)
open Go.Ideal Kd
def wE(n:Nat)(xs:ae Int):ae ah:=(List.range n).map λj:Nat=>.bool (decide ((j:Int)∈xs))
def aco(n:Nat)(xs:ae Int):(wE n xs).length=n:=by unfold wE;rw[bi,o8]
variable{n j:Nat}{xs:ae Int}
def anQ(hj:j<n):(wE n xs)[0+j*1]? =some (.bool (decide ((j:Int)∈xs))):=by
 rw[gq,lU];unfold wE;rw[eF,uk hj];rfl
def anR(hj:j<n):(wE n xs).set (0+j*1) (.bool true)=wE n (xs++[(j:Int)]):=by
 rw[gq,lU];apply iQ;intro i;rw[rM,aco];unfold wE;by_cases hi:i<n
 .exact mu
 .exact lE
def anS(n:Nat):zeros [.bool false] n=wE n []:=by
 have h:zeros [.bool false] n=List.replicate n (.bool false):=by
  induction n with
  |zero=>rfl
  |succ n ih=>rw[wR,<- ih];rfl
 rw[h];unfold wE;apply iQ;intro i;rw[eF,aeS];by_cases hi:i<n
 .rw[uk hi,if_pos hi];simp
 .rw[fT (by rw[o8];omega),if_neg hi];rfl
end Go.Proofs.YtgimfpcgbmpkhaaGreat
namespace Go.Proofs.YtgimfpcgbmpkhaaGreat
open Tryz (prog)
open Go.Ideal Kd
noncomputable def U7:=qL prog 174
def acp:ng prog 174=some U7:=s8
abbrev jT(n:Int):ah:=iV n
def Dj:rY prog 3 jT:=ajE s8
variable{bm:Nat}{aC:ae (Int×ah)}
def anT:aY prog (.func 336) [.map (some bm)] [] [] [AV jT bm aC] (λb:Nat=>.func (.func 357) #[] #[ptr' b]) (λ_=>[]) (λb=>[aX b 0 [.map (some bm)],AV jT bm aC]) (λ_=>True):=by
 refine gB 336 λB w0=>?_;refine go ?_;intro b1;refine go ?_;refine gP b1 ?_;exact gQ b1 trivial
def anU{b:Nat}:CO prog (λx:Int=>[jT x]) (.func 357) [] [ptr' b] [aX b 0 [.map (some bm)],AV jT bm aC] (λxs=>xs.Perm (aC.map (·.1))):=by
 intro S inv ok step s0 oM y1 y2 F' h0 hok hy;rw[bQ,bQ,bP];refine gB 357 λB w0=>?_;refine go ?_;refine ajH (b:=bm) (aC:=aC) (bH:=jT) (next:=λr=>?_);refine go ?_;refine dL (λy:ae (Int×ah)×S=>aC.length - y.1.length) (λy=>[]) (λy=>GJ jT r bm aC y.1::inv y.2) (λ_=>[]) (λy=>ok (y.1.map (·.1)) y.2/\(∃rest,(y.1++rest).Perm aC)/\∀rest,cz step s0 (y.1.map (·.1)++rest)=cz step y.2 rest) ([],s0) ⟨h0,⟨aC,.refl _⟩,λ_=>rfl⟩ (body:=?_);rintro⟨bS,s⟩ ⟨hos,_,hrun⟩;dsimp only at hos hrun⊢;refine go ?_;refine ajJ (b:=bm) (aC:=aC) (bS:=bS) (bH:=jT) (more:=λp rem hp=>?_) (done:=λhp=>?_) alf
 .have hX:(bS.map (·.1)++p.1::rem.map (·.1)).Perm (aC.map (·.1)):=by
   have:=hp.map (·.1);rw[bZ,iX]at this;exact this
  have hlen:=hp.length_eq;rw[fu,rJ]at hlen;have fQ:=hy _ s _ _ hos hX;refine go ?_;refine ajO (bH:=jT) (aC:=aC) (bS:=bS) (p:=p) ?_;refine gC fQ λ_ _=>?_;cases hst:(step s p.1).2 with
  |true=>
   have hs1:step s p.1=((step s p.1).1,true):=Prod.ext rfl hst;refine go ?_;refine aW (bS++[p],(step s p.1).1) (by show aC.length - (bS++[p]).length<_;rw[fu,DZ];omega) ⟨?_,⟨rem,by show((bS++[p])++rem).Perm aC;rw[fo];exact hp⟩,λrest=>?_⟩
   .show ok ((bS++[p]).map (·.1)) _;rw[bZ];exact hok _ s _ _ hos hX hst
   .show cz step s0 ((bS++[p]).map (·.1)++rest)=_;rw[bZ,fo,hrun];show cz step s (p.1::rest)=_;rw[cz,hs1]
  |false=>
   have hs1:step s p.1=((step s p.1).1,false):=Prod.ext rfl hst;have hr:=hrun (p.1::rem.map (·.1));rw[cz,hs1]at hr;dsimp only at hr;refine go ?_;exact gQ (bS.map (·.1)++p.1::rem.map (·.1)) hX (hk:=by rw[hr];exact aJ.self _ _)
 .refine go ?_;have hr:=hrun [];rw[jo]at hr;exact gQ (bS.map (·.1)) (hp.map (·.1)) (hk:=by rw[hr];apply aJ.there;exact aJ.all _)
structure H9 where
 v:Value
 xs:List Int
variable{fn:Fn}{first captured:ae ah}{F1:ae aI}{X:ae Int->Prop}
def anV(hit:CO prog (λx:Int=>[jT x]) fn first captured F1 X)(hl:∀xs,X xs->xs.length<=1000000):
 aY prog (.func 184) [.slice none 0 0,.func fn ⟨first⟩ ⟨captured⟩] [] [] F1 (λy:H9=>y.v) (λy=>[ap aj y.v y.xs]) (λ_=>[]) (λy=>X y.xs):=by
 refine zD Pz UB λB w0=>?_;refine go ?_;intro b2;refine kv aj ?_;refine oz (λv:ah=>[pt b2 (.cells [v]),ap aj v ([]:ae Int)]) (.slice none 0 0) (h:=?_);refine Ox (Z:=Nat) (λ(ys:ae Int) (x:Int)=>(ys++[x],Out.normal)) (λys=>[UE aj b2 ys]) (λvs ys=>ys=vs) [] _ (λ_ _=>[]) rfl (λvs s x rest hs hX _=>by rw[hs]) hit Dd ?_ ?_ (λ_ _=>trivial)
 .exact de
 .exact dl
def anW(hit:CO prog (λx:Int=>[jT x]) fn first captured F1 X)(hl:∀xs,X xs->xs.length<=1000000):
 aY prog (.func 92) [.func fn ⟨first⟩ ⟨captured⟩] [] [] F1 (λy:H9=>y.v) (λy=>[ap aj y.v y.xs]) (λ_=>[]) (λy=>X y.xs):=by
 refine l7 PD UC λB w0=>?_;refine gC (anV hit hl) λy hy=>?_;dsimp only[List.cons_append,List.nil_append];refine go ?_;exact gQ y hy
def U8(hit:CO prog (λx:Int=>[jT x]) fn first captured F1 X)(hl:∀xs,X xs->xs.length<=1000000):
 aY prog (.func 174) [.func fn ⟨first⟩ ⟨captured⟩] [] [] F1 (λy:H9=>y.v) (λy=>[ap aj y.v (bW y.xs)]) (λ_=>[]) (λy=>X y.xs):=by
 refine l7 U7 acp λB w0=>?_;refine gC (anW hit hl) λy hy=>?_;obtain⟨v,xs⟩:=y;dsimp only[List.cons_append,List.nil_append]at hy⊢;have hlen:=hl _ hy;refine EW (E:=aj) (v:=v) (xs:=xs) λa hv=>?_;subst hv;refine gC (KW (a:=a) (zs:=xs) rfl s6) λ_ _=>?_;refine go ?_;exact gQ ⟨.slice a xs.length xs.length,xs⟩ hy
def KY{g:bY}{vh vc:ah}{kf:Int×Int->Int×Bool}(hg:ig g)
 (hk:∀p∈bK g,aY prog fn (first++[jl p.2]) captured [] F1 (λ_:Unit=>.tuple ⟨[iV (kf p.2).1,.bool (kf p.2).2]⟩) (λ_=>[]) (λ_=>[]) (λ_=>True)):
 aY prog (.func 299) [.agg ⟨oG g vh vc⟩,.func fn ⟨first⟩ ⟨captured⟩] [] [] (ay aj vh g.holes::ay aj vc g.cells::F1) (λv:ah=>v) (λv=>[ap (aA aj) v (lK g kf)]) (λ_=>[]) (λ_=>True):=by
 have hgl:=hg.len;have hsl:=r9 g;refine zD _ (pY 299) λB w0=>?_;refine go ?_;intro b2 b3;refine go ?_;refine yB jT (λbm=>?_);refine go ?_;intro b5;refine aj1 aj (b:=bm) (bH:=jT) ?_;refine gC (U5 (g:=g) (vh:=vh) (vc:=vc)) λbs _=>?_;refine go ?_;refine Ox (Z:=Nat) (λ(m:ae (Int×ae Int)) (x:Int×(Int×Int))=>(zP kf m x,.normal)) (λm=>[Ke jT aj bm m,pt b5 (.cells [.map (some bm)]),pt b3 (.cells [.func fn ⟨first⟩ ⟨captured⟩])]) (λvs m=>m=kJ kf vs) [] _ (λx b8=>[pt b8 (.cells [iV x.2.1,iV x.2.2])]) rfl (λvs s x rest hs _ _=>by rw[hs,Kq]) (U0 (b1:=bs) (vh:=vh) (vc:=vc) hg) AW ?_ ?_ (λ_ _=>trivial)
 .intro vs s x rest b8 lo L B w0 hs hX;dsimp only[List.cons_append,List.nil_append];obtain⟨hc,hvl,hxm⟩:=OZ hX;have hkx:=hk x hxm;have hin:=O0 kf vs.length vs rfl;rw[<- hs]at hin;have hst:zP kf s x=cond (kf x.2).2 (upd (kf x.2).1 ((dM (kf x.2).1 s).getD []++[x.1]) s) s:=rfl;rw[hst];obtain⟨c,s1,s2⟩:=x;dsimp only at hc hkx hst⊢;subst hc;rcases hq:kf (s1,s2)with⟨kn,kb⟩
  rw[hq]at hkx;dsimp only at hkx⊢;refine gC hkx λ_ _=>?_;cases kb with
  |false=>
   dsimp only[cond];refine go ?_;exact dy
  |true=>
   dsimp only[cond];have hln:=hin.2 kn;refine go ?_;refine aj2 (bH:=jT) (E:=aj) (b:=bm) (m:=s) kn (h:=λaC v hkeys hv=>?_);refine EI (b:=bm) (aC:=aC) Dj kn ?_;rw[hv];refine go ?_;intro b30;refine go ?_;refine ZV (xs:=(dM kn s).getD []) aj (vs.length:Int) () s6 (next:=λad=>?_);refine go ?_;refine vX (b:=bm) (v:=.slice ad (((dM kn s).getD []).length+1) (((dM kn s).getD []).length+1)) (aC:=aC) Dj kn ?_;refine aj3 (E:=aj) (v:=.slice ad (((dM kn s).getD []).length+1) (((dM kn s).getD []).length+1)) (xs:=(dM kn s).getD []++[(vs.length:Int)]) kn hkeys ?_;refine go ?_;exact dy
 .intro r xs hX;subst hX;rw[PN (zP kf)];dsimp only[List.cons_append,List.nil_append];rw[show(bK g).foldl (zP kf) []=kJ kf (bK g)from rfl];have hin:=O0 kf _ (bK g) rfl;rw[hsl]at hin;have hL:lK g kf=(bW ((kJ kf (bK g)).map (·.1))).map λn=>(dM n (kJ kf (bK g))).getD []:=rfl;generalize hm:kJ kf (bK g)=m at hin hL⊢;refine aj4 (bH:=jT) (E:=aj) (b:=bm) (m:=m) (λaC hkeys=>?_);have hkl:aC.length=m.length:=by have:=congrArg List.length hkeys;simpa using this
  refine gZ (EH (bH:=jT) (b:=bm) (aC:=aC)) ?_;refine gZ (aj5 (E:=aj) (aC:=aC) (m:=m) hkeys) ?_;refine gP b5 ?_;refine gC (anT (bm:=bm) (aC:=aC)) λbk _=>?_;refine gC (U8 (anU (b:=bk) (bm:=bm) (aC:=aC)) (λxs h=>by have:=h.length_eq;rw[bi]at this;omega)) λy hy=>?_;obtain⟨vk,ks⟩:=y;dsimp only[List.cons_append,List.nil_append]at hy⊢;have hks:bW ks=bW (m.map (·.1)):=ak7 (by rw[<- hkeys];exact hy);rw[hks];have hkn:(bW (m.map (·.1))).length=m.length:=by rw[AX,bi]
  have hmem:∀n∈bW (m.map (·.1)),n∈m.map (·.1):=λn h=>Hf.1 h;generalize hK:bW (m.map (·.1))=ns at hkn hL hmem⊢;refine gZ (ja (E:=aj) (v:=vk) (xs:=ns)) ?_;refine gF aj vk ns λa c e=>?_;subst e;refine go ?_;refine kv (aA aj) ?_;refine dL (λy:Nat×ah=>ns.length - y.1) (λy=>[(36,iV (y.1:Int)),(4,y.2)]) (λy=>[ap (aA aj) y.2 ((ns.take y.1).map λn=>(dM n m).getD [])]) (λ_=>[]) (λy=>y.1<=ns.length) (0,.slice none 0 0) (bI _) (hk:=tc) (body:=?_);rintro⟨k,v4⟩ hk2;dsimp only at hk2⊢;refine aK ?_ ?_<;>intro h1
  .refine go ?_;intro _ _ n hn;obtain⟨v,hv⟩:=Ko (a:=n) (l:=aC) (by rw[hkeys];exact hmem n (aV hn));obtain⟨xs,hxs⟩:=Ko (a:=n) (l:=m) (hmem n (aV hn));have hlv:kw false (.slice none 0 0) n aC=v:=by unfold kw;rw[hv];rfl
   have htk:(ns.take (k+1)).map (λn=>(dM n m).getD [])=(ns.take k).map (λn=>(dM n m).getD [])++[xs]:=by
    rw[fq hn,bZ,kg,hxs];rfl
   have hxl:((ns.take k).map (λn=>(dM n m).getD [])).length=k:=us
   refine fA (ay aj v xs) (λw hw=>hw (ZY aj aC m) s7 n v xs hv hxs) ?_;refine gF aj v xs λa2 c2 e2=>?_;subst e2;refine go ?_;refine Tk (bH:=jT) (b:=bm) (aC:=aC) Dj n ?_;rw[hlv];refine go ?_;intro b44;refine go ?_;refine jy (xs:=(ns.take k).map λn=>(dM n m).getD []) (aA aj) xs (.slice a2 xs.length c2) (by rw[hxl];omega) (next:=λad=>?_);rw[<- htk];refine go ?_;exact aW (k+1,.slice ad (((ns.take k).map λn=>(dM n m).getD []).length+1) (((ns.take k).map λn=>(dM n m).getD []).length+1)) C4 tv
  have hke:k=ns.length:=s6
  subst hke;rw[dK,<- hL];refine go ?_;exact uO v4 (hv:=rfl) (hp:=trivial)
end Go.Proofs.YtgimfpcgbmpkhaaGreat
namespace Go.Proofs.YtgimfpcgbmpkhaaGreat
open Tryz (prog)
open Go.Ideal Kd
abbrev KZ(fn:Fn)(first captured:ae ah)(F1:ae aI)(g:bY)(kf:Int×Int->Int×Bool):Prop:=
 ∀p∈bK g,aY prog fn (first++[jl p.2]) captured [] F1 (λ_:Unit=>.tuple ⟨[iV (kf p.2).1,.bool (kf p.2).2]⟩) (λ_=>[]) (λ_=>[]) (λ_=>True)
variable{g:bY}
def anY:KZ (.func 300) [] [] [] g (λs=>(s.2,true)):=λp hp=>by
 refine gB 300 λB w0=>?_;refine go ?_;intro b1;exact dH
def anZ:KZ (.func 301) [] [] [] g (λs=>(s.1,true)):=λp hp=>by
 refine gB 301 λB w0=>?_;refine go ?_;intro b1;exact dH
def an0(hg:ig g):KZ (.func 337) [] [] [] g (λs=>(s.1+s.2,true)):=λp hp=>by
 have hb:=OY hg p hp;obtain⟨c,s1,s2⟩:=p;dsimp only at hb⊢;refine gB 337 λB w0=>?_;refine go ?_;intro b1;exact dH
def an1(hg:ig g):KZ (.func 338) [] [] [] g (λs=>(0,decide (s.1=s.2))):=λp hp=>by
 have hb:=OY hg p hp;refine gB 338 λB w0=>?_;refine go ?_;intro b1;exact dH
variable{vh vc:ah}
def an2{b:Nat}(hg:ig g):KZ (.func 339) [] [ptr' b] [aX b 0 (oG g vh vc)] g (λs=>(0,decide (s.1+s.2=g.w - 1))):=λp hp=>by
 have hb:=OY hg p hp;obtain⟨c,s1,s2⟩:=p;dsimp only at hb⊢;have hw:=hg.make.wi;refine gB 339 λB w0=>?_;refine go ?_;intro b1;exact dH
def an3(hg:ig g):
 aY prog (.func 302) [.agg ⟨oG g vh vc⟩] [] [] (tY g vh vc) (λv:ah=>v) (λv=>[ap (aA aj) v (uS g)]) (λ_=>[]) (λ_=>True):=by
 refine gB 302 λB w0=>?_;refine go ?_;intro b1;refine gP b1 ?_;refine aK ?_ ?_<;>intro h1
 .refine gC (KY (kf:=λs=>(s.1+s.2,true)) (vh:=vh) (vc:=vc) hg (an0 hg)) λv _=>?_;refine go ?_;exact gQ v trivial (hk:=by unfold uS;rw[if_pos h1];exact aJ.all _)
 refine aK ?_ ?_<;>intro h2
 .refine go ?_;refine kv (aA aj) ?_;exact gQ (.slice none 0 0) trivial (hk:=by unfold uS;rw[if_neg h1,if_neg h2];exact aJ.all _)
 have h2:g.w=g.h:=j6.1 h2;refine gC (KY (kf:=λs=>(0,decide (s.1=s.2))) (vh:=vh) (vc:=vc) hg (an1 hg)) λva _=>?_;refine gC (KY (kf:=λs=>(0,decide (s.1+s.2=g.w - 1))) (vh:=vh) (vc:=vc) hg (an2 (vh:=vh) (vc:=vc) (b:=b1) hg)) λvb _=>?_;have hA:=Kt hg (λs=>(0,decide (s.1=s.2)));have hB:=Kt hg (λs=>(0,decide (s.1+s.2=g.w - 1)));have hD:uS g=pG (lK g (λs=>(0,decide (s.1=s.2)))) (lK g (λs=>(0,decide (s.1+s.2=g.w - 1)))):=by unfold uS;rw[if_neg h1,if_pos h2]
 generalize lK g (λs=>(0,decide (s.1=s.2)))=la at hA hD⊢;generalize lK g (λs=>(0,decide (s.1+s.2=g.w - 1)))=lb at hB hD⊢;have hF:=O1 hA.2 hB.2;refine gZ (ja (E:=aA aj) (v:=vb) (xs:=lb)) ?_;refine gF (aA aj) vb lb λa c e=>?_;subst e;refine go ?_;refine dL (λy:Nat×ah=>lb.length - y.1) (λy=>[(22,iV (y.1:Int)),(3,y.2)]) (λy=>[ap (aA aj) y.2 (pG la (lb.take y.1))]) (λ_=>[]) (λy=>y.1<=lb.length) (0,va) (bI _) (hk:=tc) (body:=?_);rintro⟨k,v3⟩ hk2;dsimp only at hk2⊢;have U9:=hF k;refine aK ?_ ?_<;>intro h3
 .refine gX (aA aj) (xs:=lb) λ_ _ ln (vl:ah) hl=>?_;have hs:=aaI (a:=la) hl;have hll:=hB.2 ln (aV hl);generalize pG la (lb.take k)=acc at U9 hs⊢;refine EW (E:=aA aj) (v:=v3) (xs:=acc) λa3 e3=>?_;subst e3;refine gF aj vl ln λa4 c4 e4=>?_;subst e4;cases acc with
  |nil=>
   have hs2:pG la (lb.take (k+1))=[]++[ln]:=hs;refine go ?_;intro b39;refine go ?_;refine jy (xs:=([]:ae (ae Int))) (aA aj) ln (.slice a4 ln.length c4) s7 (next:=λad=>?_);rw[<- hs2];refine go ?_;exact aW (k+1,.slice ad (([]:ae (ae Int)).length+1) (([]:ae (ae Int)).length+1)) A0 tv
  |cons a0 acc=>
   have ha0:=U9.2 a0 (eX ..);refine go ?_;refine Z4 aj 0 a0 rfl (next:=λ_ _ u=>?_);refine gC (wC (xs:=a0) (ys:=ln) s6) λ_ _=>?_;by_cases h4:a0=ln
   rotate_left
   .rw[dA h4];have hs2:pG la (lb.take (k+1))=(a0::acc)++[ln]:=by rw[hs];unfold Be;rw[if_neg (show¬((a0::acc).head? =some ln)from λe=>h4 (Option.some.inj e))]
    refine go ?_;intro b39;refine go ?_;refine jy (xs:=a0::acc) (aA aj) ln (.slice a4 ln.length c4) (by have:=U9.1;omega) (next:=λad=>?_);rw[<- hs2];refine go ?_;exact aW (k+1,.slice ad ((a0::acc).length+1) ((a0::acc).length+1)) A0 tv
   .rw[eB h4];have hs2:pG la (lb.take (k+1))=a0::acc:=by rw[hs];unfold Be;rw[if_pos (by rw[h4];rfl)]
    rw[show ap (aA aj) (Value.slice a3 (a0::acc).length (a0::acc).length) (a0::acc)=ap (aA aj) (Value.slice a3 (a0::acc).length (a0::acc).length) (pG la (lb.take (k+1)))from congrArg _ hs2.symm];refine go ?_;exact aW (k+1,.slice a3 (a0::acc).length (a0::acc).length) A0 tv
 have hke:k=lb.length:=s6
 subst hke;rw[dK,<- hD];refine go ?_;exact gQ v3 trivial
end Go.Proofs.YtgimfpcgbmpkhaaGreat
namespace Go.Proofs.YtgimfpcgbmpkhaaGreat
open Tryz (prog)
open Go.Ideal Kd
def an5{c:Nat}:fC prog 66 [.slice none 0 c] [] (λ_:Unit=>.slice none 0 0) (λ_=>True):=by
 refine l7 PM UT λB w0=>?_;refine go ?_;refine(dx rfl rfl (GK (e:=3) s8 rfl)).h ?_;exact dH
def an6{v:ah}{xs:ae Int}(hl:xs.length<=4096):aY prog (.func 66) [v] [] [] [ay aj v xs,OD v xs] (λv':ah=>v') (λv'=>[ap aj v' xs]) (λ_=>[]) (λ_=>True):=by
 intro B w s;by_cases hx:xs=[]
 .have hv:v=.slice none 0 0:=s.facts (OD v xs) (fP _ (eX ..)) hx;subst hx hv;refine .vQ _ (an5 (c:=0) B w ⟨s.agree,s.le,s.fF,s.own,λf hf=>(by cases hf)⟩) ?_;rintro r pm h' ⟨hp,w',y,e1,st,e2,_⟩;obtain⟨S,q1,q2,q3⟩:=st.own;exact⟨hp,w',.slice none 0 0,e1,⟨st.agree,st.le,st.fF,⟨S,⟨[],S,.inl ⟨rfl,rfl,rfl⟩,q1,rfl⟩,q2,q3⟩,st.facts⟩,e2,trivial⟩
 .obtain⟨aF,h1,h2⟩:=ZI (s.facts (ay aj v xs) (eX ..));have hlen:aF.length=xs.length:=by rw[<- h1,bi]
  refine .vQ _ (ack (v:=v) (aF:=aF) s6 B w ⟨s.agree,s.le,s.fF,s.own,λf hf=>by rw[bR.1 hf];exact h2⟩) ?_;rintro r pm h' ⟨hp,w',y,e1,st,e2,_⟩;subst h1;exact⟨hp,w',y,e1,st.aac (by rw[hlen];exact WZ.2 hx) (λp hp f hf=>by cases hf),e2,trivial⟩
abbrev lsF(g:bY)(k:Int)(y:U6):ae aI:=[lc (y.e=0) (ay (aA aj) y.v (iE g k))]
def an7{g:bY}{vh vc:ah}{k:Int}(hS:zV g):
 aY prog (.func 230) [.agg ⟨oG g vh vc⟩,iV k] [] [] (tY g vh vc) H8 (λ_=>[]) (λy=>lsF g k y) (λy=>y.e=0↔ig g/\0<=k/\k<=7):=by
 refine gB 230 λB w0=>?_;refine go ?_;intro b2;refine gP b2 ?_;refine gC (acn (g:=g) (vh:=vh) (vc:=vc) hS) λy hy=>?_;obtain⟨vn,e⟩:=y;dsimp only at hy⊢;refine aK ?_ ?_<;>intro h1
 .refine go ?_;refine tZ (c:=e=0) (f:=ay (aA aj) (.slice none 0 0) (iE g k)) h1 ?_;exact gQ ⟨.slice none 0 0,e⟩ ⟨(λh=>absurd h h1),λh=>absurd (hy.2 h.1) h1⟩
 have he:e=0:=j6.1 h1;subst he;have hg:=hy.1 rfl;have hgl:=hg.len;have hnl:=yF g;have hnm:=Ku (g:=g);refine fA (ay (xB aj) vn (gI g)) (λw hw=>hw (lc ((0:Int)=0) (ay (xB aj) vn (gI g))) s7 rfl) ?_;refine fA (ay (aA aj) vn (gI g)) (λw hw=>aab (hw (ay (xB aj) vn (gI g)) s7)) ?_;refine gF (aA aj) vn (gI g) λan cn en=>?_;subst en;refine aK (λhk=>?_) (λhk0=>?_)
 .subst hk;have hf:iE g 0=l9 g.cells.length:=by simp[iE]
  refine go ?_;refine kv (aA aj) ?_;refine dL (λy:Nat×ah=>g.cells.length - y.1) (λy=>[(31,iV (y.1:Int)),(4,y.2)]) (λy=>[ap (aA aj) y.2 (l9 y.1)]) (λ_=>[]) (λy=>y.1<=g.cells.length) (0,.slice none 0 0) (bI _) (hk:=tc) (body:=?_);rintro⟨i,v4⟩ hi;dsimp only at hi⊢;have hil:=TS i;refine aK ?_ ?_<;>intro h2
  .refine go ?_;intro PP b37;refine mI (A:=pt PP (.cells [iV (i:Int)])) (fs:=[ay aj (.slice (some ⟨PP,0,some 0⟩) 1 1) [(i:Int)]]) (uJ (b:=PP) (f:=0) (c:=1) (xs:=[(i:Int)])) (h:=?_);refine go ?_;refine jy (xs:=l9 i) (aA aj) [(i:Int)] (.slice (some ⟨PP,0,some 0⟩) 1 1) s6 (next:=λad=>?_);rw[<- alg];refine go ?_;exact aW (i+1,.slice ad ((l9 i).length+1) ((l9 i).length+1)) Ds uv
  have hie:i=g.cells.length:=s6
  subst hie;refine gZ (ja (E:=aA aj) (v:=v4) (xs:=l9 g.cells.length)) ?_;refine go ?_;refine uY (c:=(0:Int)=0) (f:=ay (aA aj) v4 (iE g 0)) tE ?_;exact kj
 refine aK (λhk=>?_) (λhk1=>?_)
 .subst hk;have hf:iE g 1=lK g (λs=>(s.2,true)):=by simp[iE]
  refine gC (KY (kf:=λs=>(s.2,true)) (vh:=vh) (vc:=vc) hg anY) λv4 _=>?_;refine gZ (ja (E:=aA aj) (v:=v4) (xs:=lK g (λs=>(s.2,true)))) ?_;refine go ?_;refine uY (c:=(0:Int)=0) (f:=ay (aA aj) v4 (iE g 1)) tE ?_;exact gQ ⟨v4,0⟩ ⟨λ_=>⟨hg,s6,s6⟩,λ_=>rfl⟩
 refine aK (λhk=>?_) (λhk2=>?_)
 .subst hk;have hf:iE g 2=lK g (λs=>(s.1,true)):=by simp[iE]
  refine gC (KY (kf:=λs=>(s.1,true)) (vh:=vh) (vc:=vc) hg anZ) λv4 _=>?_;refine gZ (ja (E:=aA aj) (v:=v4) (xs:=lK g (λs=>(s.1,true)))) ?_;refine go ?_;refine uY (c:=(0:Int)=0) (f:=ay (aA aj) v4 (iE g 2)) tE ?_;exact gQ ⟨v4,0⟩ ⟨λ_=>⟨hg,s6,s6⟩,λ_=>rfl⟩
 refine aK (λhk=>?_) (λhk3=>?_)
 .subst hk;have hf:iE g 3=uS g:=by simp[iE]
  refine gC (an3 (vh:=vh) (vc:=vc) hg) λv4 _=>?_;refine gZ (ja (E:=aA aj) (v:=v4) (xs:=uS g)) ?_;refine go ?_;refine uY (c:=(0:Int)=0) (f:=ay (aA aj) v4 (iE g 3)) tE ?_;exact gQ ⟨v4,0⟩ ⟨λ_=>⟨hg,s6,s6⟩,λ_=>rfl⟩
 refine aK (λhk=>?_) (λhk4=>?_)
 .subst hk;have hf:iE g 4=gI g:=by simp[iE]
  refine go ?_;refine uY (c:=(0:Int)=0) (f:=ay (aA aj) (.slice an (gI g).length cn) (iE g 4)) tE ?_;exact gQ ⟨.slice an (gI g).length cn,0⟩ ⟨λ_=>⟨hg,s6,s6⟩,λ_=>rfl⟩
 refine aK (λhk=>?_) (λhk5=>?_)
 .subst hk;have hf:iE g 5=qC (gI g):=by simp[iE]
  generalize gI g=aH at hnl hnm hf⊢;refine go ?_;refine kv (aA aj) ?_;refine dL (λy:Nat×ah=>aH.length - y.1) (λy=>[(59,iV (y.1:Int)),(4,y.2)]) (λy=>[ap (aA aj) y.2 (qC (aH.take y.1))]) (λ_=>[]) (λy=>y.1<=aH.length) (0,.slice none 0 0) (bI _) (hk:=tc) (body:=?_);rintro⟨i,v4⟩ hi;dsimp only at hi⊢;have hil:(qC (aH.take i)).length=i:=by rw[aaJ,gW];omega
  refine aK ?_ ?_<;>intro h2
  .refine gX (xB aj) (xs:=aH) λ_ _ ln (vl:ah) hl=>?_;have hll:=hnm ln (aV hl);refine gC (an6 (v:=vl) (xs:=ln) s6) λK3 _=>?_;refine go ?_;intro b67;refine go ?_;refine jy (xs:=ln) aj (i:Int) () s6 (next:=λad=>?_);refine go ?_;have hl1:ln.length+1=(ln++[(i:Int)]).length:=by simp
   rw[hl1];refine fH (KW (a:=ad) (zs:=ln++[(i:Int)]) rfl th) (next:=λ_ _=>?_);have hz0:bW (ln++[(i:Int)])≠[]:=λe=>by have:=AX (ln++[(i:Int)]);rw[e]at this;simp at this
   have hfs:=alh hl;generalize hzz:bW (ln++[(i:Int)])=zs at hfs⊢;refine gZ (ja (E:=aj) (v:=.slice ad (ln++[(i:Int)]).length (ln++[(i:Int)]).length) (xs:=zs)) ?_;refine go ?_;intro b73;refine go ?_;refine jy (xs:=qC (aH.take i)) (aA aj) zs (.slice ad (ln++[(i:Int)]).length (ln++[(i:Int)]).length) s6 (next:=λVa=>?_);rw[<- hfs];refine go ?_;exact aW (i+1,.slice Va ((qC (aH.take i)).length+1) ((qC (aH.take i)).length+1)) DA uv
  have hie:i=aH.length:=s6
  subst hie;rw[dK];refine gZ (ja (E:=aA aj) (v:=v4) (xs:=qC aH)) ?_;refine go ?_;refine uY (c:=(0:Int)=0) (f:=ay (aA aj) v4 (iE g 5)) tE ?_;exact kj
 refine aK (λhk=>?_) (λhk6=>?_)
 .subst hk;have hf:iE g 6=mg (gI g):=by simp[iE]
  generalize gI g=aH at hnl hnm hf⊢;have h6:=O3 hnm;refine go ?_;refine kv (aA aj) ?_;refine dL (λy:Nat×ah=>aH.length - y.1) (λy=>[(80,iV (y.1:Int)),(4,y.2)]) (λy=>[ap (aA aj) y.2 (mg (aH.take y.1))]) (λ_=>[]) (λy=>y.1<=aH.length) (0,.slice none 0 0) (bI _) (hk:=tc) (body:=?_);rintro⟨i,v4⟩ hi;dsimp only at hi⊢;have hil:=h6 i hi;refine aK ?_ ?_<;>intro h2
  .refine gX (aA aj) (xs:=aH) λ_ _ ln (vl:ah) hl=>?_;have hll:=hnm ln (aV hl);have hfs:=aaL hl;refine gF aj vl ln λa4 c4 e4=>?_;subst e4;refine go ?_;refine dL (λy:Nat×ah=>ln.length - y.1) (λy=>[(87,iV (y.1:Int)),(4,y.2)]) (λy=>[ap (aA aj) y.2 (mg (aH.take i)++pI i (ln.take y.1))]) (λ_=>[]) (λy=>y.1<=ln.length) (0,v4) (bI _) (hk:=by rw[show mg (aH.take i)++pI i (ln.take 0)=mg (aH.take i)from jo _];repeat (first|exact aJ.nil|(apply aJ.cons;(focus (repeat (first|exact aD.here|apply aD.there)))))) (body:=?_);rintro⟨j,v5⟩ hj;dsimp only at hj⊢;have hpl:=aaK i (ln.take j);rw[gW]at hpl;have hal:(mg (aH.take i)++pI i (ln.take j)).length<=2000:=by rw[fu];omega
   refine aK ?_ ?_<;>intro h3
   .refine go ?_;intro _ _ x hx;have hps:=ali (i:=i) hx;refine aK ?_ ?_<;>intro h4
    .have Vb:mg (aH.take i)++pI i (ln.take (j+1))=(mg (aH.take i)++pI i (ln.take j))++[[(i:Int),x]]:=by rw[hps,if_pos s6,fo]
     refine go ?_;intro PR b98;refine mI (A:=pt PR (.cells [iV (i:Int),iV x])) (fs:=[ay aj (.slice (some ⟨PR,0,some 0⟩) 2 2) [(i:Int),x]]) (uJ (b:=PR) (f:=0) (c:=2) (xs:=[(i:Int),x])) (h:=?_);refine go ?_;refine jy (xs:=mg (aH.take i)++pI i (ln.take j)) (aA aj) [(i:Int),x] (.slice (some ⟨PR,0,some 0⟩) 2 2) s6 (next:=λVa=>?_);rw[<- Vb];refine go ?_;exact aW (j+1,.slice Va ((mg (aH.take i)++pI i (ln.take j)).length+1) ((mg (aH.take i)++pI i (ln.take j)).length+1)) DB ux
    .have Vb:mg (aH.take i)++pI i (ln.take (j+1))=mg (aH.take i)++pI i (ln.take j):=by rw[hps,if_neg s6,jo]
     rw[<- Vb];refine go ?_;exact aW (j+1,v5) DB ux
   have iH:j=ln.length:=s6
   subst iH;rw[dK,<- hfs];refine go ?_;exact aW (i+1,v5) DA uv
  have hie:i=aH.length:=s6
  subst hie;rw[dK];refine gZ (ja (E:=aA aj) (v:=v4) (xs:=mg aH)) ?_;refine go ?_;refine uY (c:=(0:Int)=0) (f:=ay (aA aj) v4 (iE g 6)) tE ?_;exact kj
 refine aK (λhk=>?_) (λhk7=>?_)
 .subst hk;have hf:iE g 7=[upTo' g.cells.length]:=by simp[iE]
  refine go ?_;refine kv aj ?_;refine dL (λy:Nat×ah=>g.cells.length - y.1) (λy=>[(107,iV (y.1:Int)),(15,y.2)]) (λy=>[ap aj y.2 (upTo' y.1)]) (λ_=>[]) (λy=>y.1<=g.cells.length) (0,.slice none 0 0) (bI _) (hk:=tc) (body:=?_);rintro⟨i,v15⟩ hi;dsimp only at hi⊢;have hil:=kK i;refine aK ?_ ?_<;>intro h2
  .refine go ?_;intro ave;refine go ?_;refine jy (xs:=upTo' i) aj (i:Int) () s6 (next:=λad=>?_);rw[<- EO];refine go ?_;exact aW (i+1,.slice ad ((upTo' i).length+1) ((upTo' i).length+1)) Ds uv
  have hie:i=g.cells.length:=s6
  subst hie;refine gZ (ja (E:=aj) (v:=v15) (xs:=upTo' g.cells.length)) ?_;refine gF aj v15 (upTo' g.cells.length) λa4 c4 e4=>?_;subst e4;refine go ?_;intro PS;refine gP PS ?_;refine fA (ay (aA aj) (PO PS 1) [upTo' g.cells.length]) (λw hw=>SV (v:=.slice a4 (upTo' g.cells.length).length c4) (hw _ s7) (hw _ s7)) ?_;refine go ?_;refine uY (c:=(0:Int)=0) (f:=ay (aA aj) (PO PS 1) (iE g 7)) tE ?_;exact gQ ⟨PO PS 1,0⟩ ⟨λ_=>⟨hg,s6,s6⟩,λ_=>rfl⟩
 refine go ?_;refine tZ (c:=(1:Int)=0) (f:=ay (aA aj) (.slice none 0 0) (iE g k)) s6 ?_;exact gQ ⟨.slice none 0 0,1⟩ ⟨(λh=>by cases h),(λh=>by exfalso;obtain⟨_,q1,q2⟩:=h;omega)⟩
abbrev rgF(g:bY)(rs:ae (ae Int))(y:U6):ae aI:=[lc (y.e=0) (ay (aA aj) y.v (jr g rs))]
def acw{g:bY}{vh vc vr:ah}{rs:ae (ae Int)}(hS:zV g)(hrl:rs.length<2^63)(hrs:∀ps∈rs,ps.length<2^63):
 aY prog (.func 231) [.agg ⟨oG g vh vc⟩,vr] [] [] (ay (aA aj) vr rs::tY g vh vc) H8 (λ_=>[]) (λy=>rgF g rs y) (λy=>y.e=0↔ig g/\uT g rs):=by
 refine gB 231 λB w0=>?_;refine gF (aA aj) vr rs λar cr er=>?_;subst er;refine go ?_;intro b2;refine gP b2 ?_;refine gC (UZ (g:=g) hS) λe he=>?_;refine gH ?_ ?_<;>intro h1
 rotate_left
 .refine go ?_;refine tZ (c:=(130:Int)=0) (f:=ay (aA aj) (.slice none 0 0) (jr g rs)) s6 ?_;exact gQ ⟨.slice none 0 0,130⟩ ⟨(λh=>by cases h),λh=>absurd (he.2 h.1) h1⟩
 have hg:=he.1 s6;have hgl:=hg.len;have uU:g.cells.Pairwise (·<·):=AM
 refine aK ?_ ?_<;>intro h2
 .refine go ?_;refine tZ (c:=(130:Int)=0) (f:=ay (aA aj) (.slice none 0 0) (jr g rs)) s6 ?_;exact gQ ⟨.slice none 0 0,130⟩ ⟨(λh=>by cases h),λh=>by exfalso;have:=h.2.len;omega⟩
 refine go ?_;refine kv (aA aj) ?_;refine dL (λy:Nat×ah=>rs.length - y.1) (λy=>[(24,iV (y.1:Int)),(4,y.2)]) (λy=>[ap (aA aj) y.2 (jr g (rs.take y.1))]) (λ_=>[]) (λy=>y.1<=rs.length/\∀ps∈rs.take y.1,O4 g ps) (0,.slice none 0 0) ⟨bI _,λps h=>by cases h⟩ (hk:=tc) (body:=?_);rintro⟨k,v4⟩ ⟨hk,hall⟩;dsimp only at hk hall⊢;have hkl:(jr g (rs.take k)).length=k:=by unfold jr;rw[bi,gW];omega
 refine aK ?_ ?_<;>intro h3
 .refine gX (aA aj) (xs:=rs) λ_ _ ps (vp:ah) hps=>?_;have hpm:=aV hps;have hpl:=hrs ps hpm;have htk:=fq hps;refine gF aj vp ps λa4 c4 e4=>?_;subst e4;refine go ?_;refine yB jT (λbm=>?_);refine go ?_;refine kv aj ?_;refine dL (λy:Nat×ah=>ps.length - y.1) (λy=>[(31,iV (y.1:Int)),(8,y.2)]) (λy=>[ap aj y.2 (jP g (ps.take y.1)),ic jT bm (CZ (jP g (ps.take y.1)))]) (λ_=>[]) (λy=>y.1<=ps.length/\(∀p∈ps.take y.1,p∈g.cells)/\(jP g (ps.take y.1)).Nodup) (0,.slice none 0 0) ⟨bI _,(λp h=>by cases h),Ad⟩ (hk:=tc) (body:=?_);rintro⟨j,v8⟩ ⟨hj,hmem,hnd⟩;dsimp only at hj hmem hnd⊢;have hjl:(jP g (ps.take j)).length=j:=by unfold jP;rw[bi,gW];omega
  have hj2:j<=256:=by have:=TW hmem hnd;rw[gW]at this;omega
  refine aK ?_ ?_<;>intro h4
  .refine go ?_;intro _ _ x hx;have htx:=fq hx;refine gC (acj (xs:=g.cells) (z:=x) s6 (uU.imp λh=>Int.le_of_lt h)) λy hy=>?_;have hym:=hy.mem uU;obtain⟨c,ok⟩:=y;dsimp only at hym⊢;cases ok with
   |false=>
    refine go ?_;refine tZ (c:=(130:Int)=0) (f:=ay (aA aj) (.slice none 0 0) (jr g rs)) s6 ?_;exact gQ ⟨.slice none 0 0,130⟩ ⟨(λh=>by cases h),λh=>by
     have:=hym.2 ((h.2.all ps hpm).mem x (aV hx));cases this⟩
   |true=>
    have hxm:=hym.1 rfl;have zO:g.cells[c]? =some x:=hy.2.2.2.1 rfl;have hpos:=TT uU zO;have hr1:jP g (ps.take (j+1))=jP g (ps.take j)++[(c:Int)]:=by unfold jP;rw[htx,bZ,kg,hpos]
    refine go ?_;refine EI (bH:=jT) (b:=bm) (aC:=CZ (jP g (ps.take j))) Dj (c:Int) ?_;rw[alk];refine aK ?_ ?_<;>intro h5
    .refine go ?_;refine tZ (c:=(130:Int)=0) (f:=ay (aA aj) (.slice none 0 0) (jr g rs)) s6 ?_;exact gQ ⟨.slice none 0 0,130⟩ ⟨(λh=>by cases h),λh=>by
      exfalso
      have h6:(jP g ps).Nodup:=(h.2.all ps hpm).nd;have h7:(jP g (ps.take (j+1))).Nodup:=by
       refine h6.sublist ?_;unfold jP;exact(Mj _ _).map _
      rw[hr1,j5]at h7;exact h7.2.2 _ h5 _ (bR.2 rfl) rfl⟩
    .refine go ?_;refine vX (bH:=jT) (b:=bm) (v:=.bool true) (aC:=CZ (jP g (ps.take j))) Dj (c:Int) ?_;rw[<- aaM,<- hr1];refine go ?_;intro b53;refine go ?_;refine jy (xs:=jP g (ps.take j)) aj (c:Int) () s6 (next:=λad=>?_);rw[<- hr1];refine go ?_;refine aW (j+1,.slice ad ((jP g (ps.take j)).length+1) ((jP g (ps.take j)).length+1)) (by show ps.length - (j+1)<ps.length - j;omega) ⟨by show j+1<=_;omega,?_,?_⟩
     .show∀p∈ps.take (j+1),p∈g.cells;rw[htx];intro p hp;rcases fU.1 hp with hp|hp
      .exact hmem p hp
      .rw[bR.1 hp];exact hxm
     .show(jP g (ps.take (j+1))).Nodup;rw[hr1,j5];exact⟨hnd,s7,λa ha b hb e=>h5 (by rw[bR.1 hb]at e;rw[<- e];exact ha)⟩
  have iH:j=ps.length:=s6
  subst iH;rw[dK]at hmem hnd⊢;have hrl2:(jP g ps).length=ps.length:=by unfold jP;rw[bi]
  refine EW (E:=aj) (v:=v8) (xs:=jP g ps) λa8 e8=>?_;subst e8;refine aK ?_ ?_<;>intro h5
  .refine go ?_;refine tZ (c:=(130:Int)=0) (f:=ay (aA aj) (.slice none 0 0) (jr g rs)) s6 ?_;exact gQ ⟨.slice none 0 0,130⟩ ⟨(λh=>by cases h),λh=>by
    exfalso
    exact(h.2.all ps hpm).ne (pU.1 s6)⟩
  have hR:O4 g ps:=⟨λe=>h5 (by rw[hrl2,e];rfl),hmem,hnd⟩
  have hrr:jr g (rs.take (k+1))=jr g (rs.take k)++[jP g ps]:=by unfold jr;rw[htk,bZ,kg]
  refine gZ (ja (E:=aj) (v:=.slice a8 (jP g ps).length (jP g ps).length) (xs:=jP g ps)) ?_;refine go ?_;intro b61;refine go ?_;refine jy (xs:=jr g (rs.take k)) (aA aj) (jP g ps) (.slice a8 (jP g ps).length (jP g ps).length) s6 (next:=λad=>?_);rw[<- hrr];refine go ?_;refine aW (k+1,.slice ad ((jr g (rs.take k)).length+1) ((jr g (rs.take k)).length+1)) (by show rs.length - (k+1)<rs.length - k;omega) ⟨by show k+1<=_;omega,?_⟩;show∀qs∈rs.take (k+1),O4 g qs;rw[htk];intro qs hq;rcases fU.1 hq with hq|hq
  .exact hall qs hq
  .rw[bR.1 hq];exact hR
 have hke:k=rs.length:=s6
 subst hke;rw[dK]at hall⊢;refine gZ (ja (E:=aA aj) (v:=v4) (xs:=jr g rs)) ?_;refine go ?_;refine uY (c:=(0:Int)=0) (f:=ay (aA aj) v4 (jr g rs)) s7 ?_;exact gQ ⟨v4,0⟩ ⟨λ_=>⟨hg,s6,hall⟩,λ_=>rfl⟩
