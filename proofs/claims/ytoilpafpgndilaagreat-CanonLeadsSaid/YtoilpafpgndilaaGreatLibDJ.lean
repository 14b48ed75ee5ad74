/- Part. -/
import Derived.Test.YtoilpafpgndilaaGreatShelf
import Derived.Test.YtoilpafpgndilaaGreatLibAJ
set_option linter.all false
set_option maxRecDepth 10000
set_option maxHeartbeats 4000000
namespace Go.Proofs.YtoilpafpgndilaaGreat
open Tryz (prog)
open Go.Ideal
noncomputable def Ty:=qI prog 126
def abk:mO prog 126=some Ty:=s8
def srt:RB prog 126:=λblk off cap zs w h1 h2 h3=>Any.slices_Sort_int Tryz.lays189 blk off cap zs w h1 h2 h3
open Go.Ideal Kd
noncomputable def N7:=qI prog 52
def Tz:mO prog 52=some N7:=s8
noncomputable def TA:=qI prog 208
def alO:mO prog 208=some TA:=s8
variable{x:Int}
def alP:dZ prog 106 [iV x] [] (.bool false):=by
 refine gB 106 λB w0=>?_;refine bF ?_;rw[bY (λh=>h rfl)];rfl
def alQ:dZ prog 346 [iV x] [] (.bool false):=by
 refine gB 346 λB w0=>?_;refine bF ?_;rw[bY (λh=>h rfl)];rfl
def alR{y:Int}:dZ prog 251 [iV x,iV y] [] (.bool (decide (x<y))):=by
 refine gB 251 λB w0=>?_;refine gC (alP (x:=x)) λ_ _=>?_;exact eH
def TB(xs:ae Int)(z:Int)(y:Nat×Bool):Prop:=y.1<=xs.length/\(∀(j:Nat) x,j<y.1->xs[j]? =some x->x<z)/\(∀(j:Nat) x,y.1<=j->xs[j]? =some x->z<=x)/\(y.2=true↔xs[y.1]? =some z)
variable{xs:ae Int}{z:Int}
def TB.mem{y:Nat×Bool}(h:TB xs z y)(hs:xs.Pairwise (·<·)):y.2=true↔z∈xs:=by
 obtain⟨h1,h2,h3,h4⟩:=h;rw[h4];refine⟨λh=>aT h,λh=>?_⟩;obtain⟨j,hj⟩:=yY.1 h;have hjl:=(aV.1 hj)
 rcases VW j y.1 with h5|h5|h5
 .have:=h2 j z h5 hj;omega
 .rw[<- h5];exact hj
 .have hyl:y.1<xs.length:=by have:=hjl.1;omega
  have hy:xs[y.1]? =some xs[y.1]:=bG hyl;have h6:=h3 y.1 _ (aZ _) hy;have h7:=yZ.1 hs y.1 j hyl hjl.1 h5;rw[hjl.2]at h7;omega
variable{v:ah}
def abl(hl:xs.length<4611686018427387904)(hs:xs.Pairwise (·<=·)):
 fC prog 307 [v,iV z] [aj ai v xs] (λy:Nat×Bool=>.tuple ⟨[iV (y.1:Int),.bool y.2]⟩) (TB xs z):=by
 refine gB 307 λB w0=>?_;refine gL (λy:Nat×Nat=>y.2 - y.1) (λy=>[(7,iV (y.1:Int)),(8,iV (y.2:Int))]) (λy=>y.1<=y.2/\y.2<=xs.length/\(∀(j:Nat) x,j<y.1->xs[j]? =some x->x<z)/\(∀(j:Nat) x,y.2<=j->xs[j]? =some x->z<=x)) (0,xs.length) ⟨bM _,aZ _,λj x hj=>by omega,λj x hj hx=>by have:=(aV.1 hx).1;omega⟩ ?_;rintro⟨a,b⟩ ⟨hab,hb,hlo,hhi⟩;dsimp only at hab hb hlo hhi⊢;refine aO ?_ ?_<;>intro h1
 .have IX:a<=(a+b)>>>1/\(a+b)>>>1<b:=by
   rw[Pq];omega
  generalize hm:(a+b)>>>1=m at IX;refine go ?_;rw[show(a:Int)+(b:Int)=((a+b:Nat):Int)by omega];refine(cZ rfl rfl (zz (k:=.u64) (m:=((a+b:Nat):Int)) (by kernel_rfl:prog.underlying 3=some (.int .i64)) s8 rfl (Y2 s6))).h ?_;refine(cZ rfl rfl (Y3 (a:=a+b) (b:=1) rfl rfl s6)).h ?_;rw[hm];refine(cZ rfl rfl (zz (k:=.i64) (m:=(m:Int)) (by kernel_rfl:prog.underlying 180=some (.int .u64)) s8 rfl (wrapN s6))).h ?_;refine go ?_;intro _ _ x hx;refine gC (alR (x:=x) (y:=z)) λ_ _=>?_;refine go ?_;have hle:∀(i j:Nat) u v,i<=j->xs[i]? =some u->xs[j]? =some v->u<=v:=by
   intro i j u v hij hu hv;by_cases e:i=j
   .subst e;rw[hu]at hv;injection hv with hv;omega
   .exact yZ.1 hs i j (aV.1 hu).1 (aV.1 hv).1 s6|>λh=>by
     rw[(aV.1 hu).2,(aV.1 hv).2]at h;exact h
  refine p9 rfl ?_ ?_<;>intro h2
  .refine go ?_;refine aU (m+1,b) (by show b - (m+1)<b - a;omega) ⟨by show m+1<=b;omega,hb,λj u hj hu=>?_,hhi⟩;have:=hle j m u x (by show j<=m;have:j<m+1:=hj;omega) hu hx;omega
  .refine go ?_;refine aU (a,m) (by show m - a<b - a;omega) ⟨by show a<=m;omega,by show m<=_;omega,hlo,λj u hj hu=>?_⟩;have:=hle m j x u hj hx hu;omega
 have hba:b=a:=s6
 subst hba;refine gH ?_ ?_<;>intro h2
 .have hn:xs[b]? =none:=dW s6;refine go ?_;exact gQ (b,false) ⟨by show b<=_;omega,hlo,hhi,by show false=true↔xs[b]? =some z;rw[hn];simp⟩
 refine go ?_;intro _ _ x hx;refine go ?_;by_cases hxz:x=z
 .subst hxz;rw[eT rfl];refine go ?_;exact gQ (b,true) ⟨by show b<=_;omega,hlo,hhi,by show true=true↔xs[b]? =some x;simp[hx]⟩
 .rw[bY hxz];refine go ?_;intro _ _ x2 hx2;refine gC (alQ (x:=x2)) λ_ _=>?_;refine go ?_;exact gQ (b,false) ⟨by show b<=_;omega,hlo,hhi,by show false=true↔xs[b]? =some z;rw[hx];simp[hxz]⟩
def abm{aC:ae (Int×ai.Y)}(hl:aC.length<=4096):aX prog (.func 52) [v] [] [] [vK ai v aC] (λv':ah=>v') (λv'=>[ar ai v' aC]) (λ_=>[]) (λ_=>True):=by
 refine mq N7 Tz λB w0=>?_;refine Tt (v:=v) (aC:=aC) ai (λe c ev=>?_) (λe i o f c ev=>?_) (λhne i o f c ev=>?_)
 .subst e ev;refine go ?_;refine(cZ rfl rfl (Gi (e:=3) s8 rfl)).h ?_;refine go ?_;refine Tu ai ?_;exact p0
 .subst e ev;refine go ?_;refine(cZ rfl rfl (zy (e:=3) s8 rfl)).h ?_;refine go ?_;intro b;refine go ?_;refine Jw (b:=b) ?_;refine go ?_;refine wV (b:=b) (m:=0) (f:=0) ai (aC:=[]) rfl (.inl rfl) ?_ (hk:=aB.here);exact mc
 .subst ev;refine go ?_;refine(cZ rfl rfl (zy (e:=3) s8 rfl)).h ?_;refine go ?_;intro b;refine go ?_;refine Jy (b:=b) ai aC hne s6 (λb'=>?_);refine go ?_;refine wV (b:=b') (m:=aC.length) (f:=ai.n) ai (aC:=aC) rfl (.inr rfl) ?_ (hk:=aB.here);exact gQ (.slice (some ⟨b',0,some ai.n⟩) aC.length aC.length) trivial
abbrev JX:ae ah:=[iV 0,iV 0,iV 0,.slice none 0 0,.slice none 0 0]
abbrev oz(g:bQ)(vh vc:ah):ae ah:=[iV g.shape,iV g.w,iV g.h,vh,vc]
abbrev tQ(g:bQ)(vh vc:ah):ae aI:=[aj ai vh g.holes,aj ai vc g.cells]
structure TC where
 ok:Bool
 vh:Value
 vc:Value
def EN(s w h:Int)(holes:ae Int):bQ:=⟨s,w,h,holes,uG w h holes⟩
abbrev mkV(s w h:Int)(holes:ae Int)(y:TC):ah:=.tuple ⟨[.agg ⟨cond y.ok (oz (EN s w h holes) y.vh y.vc) JX⟩,iV (cond y.ok 0 130)]⟩
abbrev zJ(s w h:Int)(holes:ae Int)(y:TC):ae aI:=cond y.ok (tQ (EN s w h holes) y.vh y.vc) []
def Bt(xs:ae Int):Int:=xs.getLast?.getD (-1)
def alS(xs:ae Int)(x:Int):Bt (xs++[x])=x:=by simp[Bt]
def alT(h:∀x∈xs,0<=x): -1<=Bt xs:=by
 unfold Bt;cases hx:xs.getLast? with
 |none=>simp
 |some x=>
  have:=h x (List.mem_of_getLast? hx);simp only[yV];omega
def alU(h:xs.Pairwise (·<·)){a:Int}(ha:a∈xs):a<=Bt xs:=by
 unfold Bt;cases hx:xs.getLast? with
 |none=>rw[List.getLast?_eq_none_iff]at hx;subst hx;cases ha
 |some x=>
  obtain⟨ys,rfl⟩:=List.getLast?_eq_some_iff.1 hx;simp only[yV];rcases fq.1 ha with h1|h1
  .have:=(VY.1 h).2.2 a h1 x (bA.2 rfl);omega
  .rw[bA.1 h1];exact Int.le_refl _
def alV{k:Nat}(h:xs.Pairwise (·<·))(hx:xs[k]? =some x)(h0:0<=x):Bt (xs.take k)<x:=by
 unfold Bt;cases hl:(xs.take k).getLast? with
 |none=>simp only[Option.getD_none];omega
 |some y=>
  simp only[yV];have hy:=List.mem_of_getLast? hl;have hd:xs=xs.take k++x::xs.drop (k+1):=by
   conv=>lhs;rw[<- nE k xs]
   rw[nH (aV.1 hx).1,(aV.1 hx).2]
  rw[hd]at h;exact(VY.1 h).2.2 y hy x (dD ..)
def TD{s w h:Int}{holes:ae Int}{vh:ah}(hw64:mF w)(atq:mF h)(hl:holes.length<4611686018427387904):
 aX prog (.func 208) [iV s,iV w,iV h,vh] [] [] [aj ai vh holes] (mkV s w h holes) (λ_=>[]) (zJ s w h holes) (λy=>y.ok=true↔vO s w h holes):=by
 have bad:¬vO s w h holes->∀{B:ae Nat} {w0:Wd} {kl:ae OA} {F:ae aI} {l:qr} {n b:Nat} {bz:ae OA},lk l 8=ptr' b->lk l 9=iV 130->aB (pt b (.cells JX)) kl bz->
  R (λh0=>zm TA (Go.Ideal.Left B w0 (mkV s w h holes) (λ_=>[]) (zJ s w h holes) (λy=>y.ok=true↔vO s w h holes)) .ret (act n l [] none none) h0) B w0 kl F:=by
  intro hno B w0 kl F l n b bz h8 h9 hk;refine Yp (bz:=kl) ⟨false,.nilFunc,.nilFunc⟩ (vs:=[.agg ⟨JX⟩,iV 130]) ?_ rfl ⟨(λe=>by cases e),λe=>absurd e hno⟩ .nil .nil (.inr rfl);show RS l kl [.pV 5 8,.tmp 9] _;exact .pV h8 hk rfl (.tmp h9 .nil)
 refine mq TA alO λB w0=>?_;refine go ?_;intro b8;refine go ?_;by_cases hsh:s=1\/s=2
 rotate_left
 .rw[eT (show s≠1 from λe=>hsh (.inl e))];refine go ?_;rw[eT (show s≠2 from λe=>hsh (.inr e))];refine go ?_;exact bad (λh=>hsh h.sh) rfl rfl .here
 have hmk:∀sh,(sh=1\/sh=2)->(vO sh w h holes↔vO s w h holes):=λsh e=>⟨λq=>⟨hsh,q.wi,q.he,q.len,q.inc,q.mem⟩,λq=>⟨e,q.wi,q.he,q.len,q.inc,q.mem⟩⟩
 have h22:∀{B:ae Nat} {w0:Wd} {kl:ae OA} {F:ae aI} {K:KO} {ds:ae Tmp} {rest:ae bN} {n:Nat} {l:qr} {D:ae Deferred},
  R (λh0=>aM prog ds rest (act n ((22,.bool false)::(21,.bool false)::l) D none none) h0 K) B w0 kl F->R (λh0=>aM prog ds rest (act n ((22,.bool false)::(21,.bool false)::l) D none none) h0 K) B w0 kl F:=λh=>h
 rcases hsh with rfl|rfl;all_goals
  refine gH ?_ ?_<;>intro a1
  rotate_left
  .exact pC
  refine gH ?_ ?_<;>intro a2
  rotate_left
  .exact pC
  refine gH ?_ ?_<;>intro a3
  rotate_left
  .exact pD
  refine gH ?_ ?_<;>intro a4
  rotate_left
  .exact pD
  have hwh:=ED (w:=w) (h:=h) ⟨s6,s6⟩ ⟨s6,s6⟩;refine aO ?_ ?_<;>intro a5
  .refine go ?_;exact bad (λq=>by have:=q.len;omega) rfl rfl .here
  refine gL (λk=>holes.length - k) (λk:Nat=>[(49,iV (k:Int)),(10,iV (Bt (holes.take k)))]) (λk=>k<=holes.length/\(holes.take k).Pairwise (·<·)/\∀x∈holes.take k,0<=x/\x<w*h) 0 ⟨bM _,s7,s7⟩ ?_;rintro k ⟨hk,uI,hmem⟩;refine aO ?_ ?_<;>intro a6
  .refine go ?_;intro _ _ x hx;refine go ?_;have hxm:=aT hx;refine gG ?_ ?_<;>intro a7
   rotate_left
   .refine go ?_;exact bad (λq=>by
     have h1:=q.inc;have h2:=q.mem x hxm;have:=alV h1 hx h2.1;omega) rfl rfl .here
   refine aO ?_ ?_<;>intro a8
   .refine go ?_;exact bad (λq=>by have:=q.mem x hxm;omega) rfl rfl .here
   refine go ?_;have htk:holes.take (k+1)=holes.take k++[x]:=by rw[rH,hx];rfl
   refine aU (k+1) s6 ⟨s6,?_,?_⟩ (hl:=⟨rfl,by rw[htk,alS];rfl,DM⟩)
   .rw[htk,VY];refine⟨uI,s7,λa ha b hb=>?_⟩;rw[bA.1 hb];have:=alU uI ha;omega
   .rw[htk];intro z hz;rcases fq.1 hz with hz|hz
    .exact hmem z hz
    .rw[bA.1 hz];have:=alT (λy hy=>(hmem y hy).1);omega
  have hkl:k=holes.length:=s6
  subst hkl;rw[fu]at uI hmem;have hok:∀s',(s'=1\/s'=2)->vO s' w h holes:=λs' hs'=>⟨hs',⟨s6,s6⟩,⟨s6,s6⟩,s6,uI,hmem⟩
  obtain⟨m,hm⟩:=gV (show 0<=w*h by omega);have alW:uG w h holes=kI m holes:=by
   unfold uG;rw[hm];rfl
  refine go ?_;refine Jv ai vh (λxh hxh=>?_);have hxl:xh.length=holes.length:=by rw[<- hxh,aR]
  refine iy (abm (aC:=xh) s6) (next:=λv1 _=>?_);refine M7 (E:=ai) (v:=v1) (aC:=xh) ?_ (λw h p hp f hf=>by cases hf);rw[hxh];refine gF ai v1 holes λa1 c1 e1=>?_;subst e1;refine go ?_;rw[hm];refine lT ai ?_;refine dV (λy:Nat×ak Addr=>m - y.1) (λy=>[(75,iV (y.1:Int))]) (λy=>[pt b8 (.cells [iV _,iV w,iV h,.slice a1 holes.length c1,.slice y.2 (kI y.1 holes).length (kI y.1 holes).length]),ap ai (.slice y.2 (kI y.1 holes).length (kI y.1 holes).length) (kI y.1 holes)]) (λ_=>[]) (λy=>y.1<=m) (0,none) (bM _) (hk:=s9) (body:=?_);rintro⟨k,ad⟩ hk;dsimp only at hk⊢;have hcl:=Ns k holes;refine aO ?_ ?_<;>intro a9
  .refine gC (abl (xs:=holes) (z:=(k:Int)) hl (uI.imp (λh=>Int.le_of_lt h))) λy hy=>?_;have hmm:=hy.mem uI;clear hy;obtain⟨n,b⟩:=y;dsimp only at hmm;refine go ?_;cases b with
   |true=>
    refine go ?_;have e1:kI (k+1) holes=kI k holes:=by rw[ZR,if_pos (hmm.1 rfl),gW]
    rw[<- e1];exact aU (k+1,ad) Bs Bx
   |false=>
    have hnm:¬(k:Int)∈holes:=λh=>by have:=hmm.2 h;cases this
    have e1:kI k holes++[(k:Int)]=kI (k+1) holes:=by rw[ZR,if_neg hnm]
    have e2:(kI k holes).length+1=(kI (k+1) holes).length:=by rw[<- e1];simp
    refine go ?_;intro b89;refine go ?_;refine kY ai (xs:=kI k holes) (k:Int) () s6 λad'=>?_;rw[e1,e2];refine go ?_;exact aU (k+1,ad') Bs Bx
  have hkm:k=m:=s6
  subst hkm;refine go ?_;refine mD jr (A:=ap ai (.slice ad (kI k holes).length (kI k holes).length) (kI k holes)) (h:=?_);refine go ?_;refine gQ ⟨true,.slice a1 holes.length c1,.slice ad (kI k holes).length (kI k holes).length⟩ ⟨λ_=>hok _ (by first|exact .inl rfl|exact .inr rfl),λ_=>rfl⟩ (hF:=?_);show Sub [aj ai _ holes,aj ai _ (uG w h holes)] _;rw[alW];exact .cons s7 (.cons s7 .nil)
end Go.Proofs.YtoilpafpgndilaaGreat
namespace Go.Proofs.YtoilpafpgndilaaGreat
open Tryz (prog)
open Go.Ideal Kd
structure zK(g:bQ):Prop where
 w:mF g.w
 h:mF g.h
 holes:g.holes.length<4611686018427387904
 cells:g.cells.length<4611686018427387904
variable{g:bQ}{vh vc:ah}
def TE(hS:zK g):
 fC prog 227 [.agg ⟨oz g vh vc⟩] (tQ g vh vc) (λe:Int=>iV e) (λe=>e=0↔ic g):=by
 refine gB 227 λB w0=>?_;refine go ?_;intro b1;refine gC (TD (s:=g.shape) (w:=g.w) (h:=g.h) (holes:=g.holes) (vh:=vh) hS.w hS.h hS.holes) λy hy=>?_;obtain⟨ok,v1,v2⟩:=y;cases ok with
 |false=>
  have hno:¬vO g.shape g.w g.h g.holes:=λh=>by have:=hy.2 h;cases this
  dsimp only[mkV,zJ,cond,List.nil_append];refine go ?_;intro b3;refine go ?_;exact gQ 130 ⟨(λh=>by cases h),λh=>absurd h.make hno⟩
 |true=>
  have hmk:=hy.1 rfl;dsimp only[mkV,zJ,cond,tQ,EN,List.cons_append,List.nil_append];refine go ?_;intro b3;refine gC (vR (xs:=uG g.w g.h g.holes) (ys:=g.cells) (by
   have:=Ns (g.w*g.h).toNat g.holes;have:=ED hmk.wi hmk.he;unfold uG;omega)) λ_ _=>?_
  refine go ?_;refine sQ rfl (λh1=>?_) (λh1=>?_)
  .refine go ?_;exact gQ 130 ⟨(λh=>by cases h),λh=>absurd h.cells.symm h1⟩
  .refine go ?_;exact gQ 0 ⟨λ_=>⟨hmk,h1.symm⟩,λ_=>rfl⟩
abbrev alY(x:Int×(Int×Int)):ae ah:=[iV x.1,jf x.2]
def TF{b1:Nat}(hg:ic g):CG prog alY (.func 347) [] [ptr' b1] [bW b1 0 (oz g vh vc),aj ai vc g.cells] (λxs=>xs=bI g):=by
 intro S inv ok step s0 tq y1 y2 F' h0 hok hy;have hgl:=hg.len;have ng:=hg.make.wi;rw[dm,dm,cK];refine gB 347 λB w0=>?_;refine go ?_;refine dV (λy:Nat×S=>g.cells.length - y.1) (λy=>[(10,iV (y.1:Int))]) (λy=>inv y.2) (λ_=>[]) (λy=>y.1<=g.cells.length/\ok ((bI g).take y.1) y.2/\dA step y.2 ((bI g).drop y.1)=dA step s0 (bI g)) (0,s0) ⟨bM _,h0,rfl⟩ (body:=?_);rintro⟨k,s⟩ ⟨hk,hos,hrun⟩;dsimp only at hk hos hrun⊢;refine aO ?_ ?_<;>intro h1
 .refine go ?_;intro _ _ x hx;have hxb:=hg.cell x (aT hx);have hsp:=CQ hx;have hd:(bI g).drop k=((k:Int),kJ g x)::(bI g).drop (k+1):=by
   rw[nH yp];congr 1;rw[bG yp]at hsp;exact Option.some.inj hsp
  have hX:(bI g).take k++((k:Int),kJ g x)::(bI g).drop (k+1)=bI g:=by rw[<- hd,nE]
  refine go ?_;refine(cZ rfl rfl (Cx (a:=x) (b:=g.w) rfl rfl s6)).h ?_;refine go ?_;have hq:0<=x.tdiv g.w/\x.tdiv g.w<=x:=by
   exact iv
  have hr:0<=x.tmod g.w/\x.tmod g.w<=x:=by
   exact dg
  refine(cZ rfl rfl (Jh (a:=x) (b:=g.w) rfl rfl s6 s6 s6)).h ?_;refine aO ?_ ?_<;>intro h2
  .have hso:kJ g x=(x.tmod g.w - (x.tdiv g.w).tdiv 2,x.tdiv g.w):=by unfold kJ;rw[if_pos h2]
   have hq2:0<=(x.tdiv g.w).tdiv 2/\(x.tdiv g.w).tdiv 2<=x.tdiv g.w:=by
    rw[y9 hq.1];omega
   rw[hso]at hX hd;have gy:=hy _ s _ _ hos hX;refine go ?_;refine(cZ rfl rfl (Jh (a:=x.tdiv g.w) (b:=2) rfl rfl s6 s6 s6)).h ?_;exact cM
  .have hso:kJ g x=(x.tmod g.w,x.tdiv g.w):=by unfold kJ;rw[if_neg h2]
   rw[hso]at hX hd;have gy:=hy _ s _ _ hos hX;exact cM
 have hkl:k=(bI g).length:=yp
 rw[hkl,Fp]at hrun;refine go ?_;exact gQ (bI g) rfl (hk:=By)
end Go.Proofs.YtoilpafpgndilaaGreat
namespace Go.Proofs.YtoilpafpgndilaaGreat
open Tryz (prog)
open Go.Ideal Kd
def TG:Ef (sI prog uq sJ):=F3 _ _ _ (λf q h v h' hm=>by cases hm)
def alZ(h:IH)(K:BR):(FB (sI prog uq sJ) 1000).call ⟨.func 129,[.int .u64 0],[],none⟩ h K=K (.ok (iV 0)) none h:=s8
def al0:dZ prog 129 [.int .u64 0] [] (iV 0):=λB w s=>by
 have h2:=alZ w.h λr pm h'=> @decide (pm=none/\r=.ok (iV 0)/\h'=w.h) (Classical.propDecidable _);have h1:=LG TG (h2.trans (@eT _ (Classical.propDecidable _) ⟨rfl,rfl,rfl⟩));refine .uy _ h1 λr pm h' hg=>?_;obtain⟨rfl,rfl,rfl⟩:= @ko _ (Classical.propDecidable _) hg;exact⟨rfl,w,(),rfl,s,rfl,trivial⟩
variable{a:ak Addr}{c:Nat}
def al1:dZ prog 245 [.slice a 0 c,iV 0,iV 0] [] (.tuple ⟨[]⟩):=by
 refine gB 245 λB w0=>?_;refine go ?_;refine oh ?_;exact eH
def al2:dZ prog 163 [.slice a 0 c,iV 0,iV 0,iV 0] [] (.tuple ⟨[]⟩):=by
 refine gB 163 λB w0=>?_;refine go ?_;refine oh ?_;refine gC (al1 (a:=a) (c:=c)) λ_ _=>?_;exact eH
def al3:dZ prog 126 [.slice a 0 c] [] (.tuple ⟨[]⟩):=by
 refine mq Ty abk λB w0=>?_;refine go ?_;refine(cZ rfl rfl (zz (k:=.u64) (m:=0) (by kernel_rfl:prog.underlying 3=some (.int .i64)) s8 rfl (by rfl))).h ?_;refine iy al0 (next:=λ_ _=>?_);refine gC (al2 (a:=a) (c:=c)) λ_ _=>?_;exact eH
def al4:∃fn body,prog.funcs[126]? =some fn/\fn.body=some body/\fn.name≠ "runtime.NumGoroutine" :=by
 obtain⟨fn,h1,h2⟩:=TG.fn 126 Ty abk;have h3:prog.funcs[126]? =some fn:=h1;have h4:(fn.name== "runtime.NumGoroutine")=false:=by
  have e:(prog.funcs[126]?).map (λf=>f.name== "runtime.NumGoroutine")=some false:=s8
  exact nw
 have h5:fn.body.isSome=true:=by
  have e:(prog.funcs[126]?).map (λf=>f.body.isSome)=some true:=s8
  exact nw
 exact pb
def JY{m:Nat}{zs:ae Int}(hm:m=zs.length)(hl:zs.length<4611686018427387904):
 aX prog (.func 126) [.slice a m m] [] [ap ai (.slice a m m) zs] [] (λ_:Unit=>.tuple ⟨[]⟩) (λ_=>[ap ai (.slice a m m) (bK zs)]) (λ_=>[]) (λ_=>True):=by
 subst hm;obtain⟨fn,body,h1,h2,h3⟩:=al4;by_cases hz:zs=[]
 .subst hz;have e:bK []=[]:=by simp[bK]
  rw[e];intro B w s;obtain⟨S1,s1,back⟩:=s.qU (k1:=[]) (bz:=[ap ai (.slice a 0 0) []]) (F1:=[]) .nil .nil;refine .uy _ (al3 (a:=a) (c:=0) S1 w s1) ?_;exact nq
 .exact aiJ srt h1 h2 h3 (Fb.2 hz) hl
def abn:rW prog 329 jf:=aiR (e:=3) s8 s8 s8 (λa b=>by kernel_rfl)
variable{g:bQ}{vh vc:ah}
def TH:aX prog (.func 308) [.agg ⟨oz g vh vc⟩] [] [] (tQ g vh vc) (λb:Nat=>.func (.func 347) #[] #[ptr' b]) (λ_=>[]) (λb=>[bW b 0 (oz g vh vc),aj ai vc g.cells]) (λ_=>True):=by
 refine gB 308 λB w0=>?_;refine go ?_;intro b1;refine go ?_;refine gP b1 ?_;exact gQ b1 trivial
def nQ(c:Prop)(f:aI):aI:=⟨λw=>c->f.p w,λa h e=>f.mono a (h e)⟩
variable{B:ae Nat}{w0:Wd}{kl:ae OA}{F:ae aI}{Q:IH->Prop}{f:aI}
def tT{c:Prop}(hc:¬c)(h:R Q B w0 kl (nQ c f::F)):R Q B w0 kl F:=eD (nQ c f) (λw _ e=>absurd e hc) h
def vU{c:Prop}(hf:f∈F)(h:R Q B w0 kl (nQ c f::F)):R Q B w0 kl F:=eD (nQ c f) (λw hw _=>hw f hf) h
structure TI where
 v:Value
 e:Int
abbrev N8(y:TI):ah:=.tuple ⟨[y.v,iV y.e]⟩
def N9{S α:Type}(f:S->α->S):∀(xs:ae α) (s:S),iO (λs x=>(f s x,Out.normal)) s xs=(xs.foldl f s,.normal)
 |[],s=>rfl
 |x::xs,s=>by
  show iO (λs x=>(f s x,Out.normal)) (f s x) xs=_;rw[N9 f xs];rfl
section
variable {P:Program} {B:ae Nat} {w0:Wd} {kl kl':ae OA} {F:ae aI} {Q:IH->Prop}
def al5{b:Nat}{cs cs':ae ah}(e:cs=cs')(h:R Q B w0 (pt b (.cells cs')::kl') F)(hk:aB (pt b (.cells cs)) kl kl':=by exact dU):R Q B w0 kl F:=by
 subst e;exact λw s=>h w (s.fI hk)
def Da{α:Type}{E:Enc α}{v:ah}{xs:ae α}(h:∀a,v=.slice a xs.length xs.length->R Q B w0 kl F)(hk:aB (ap E v xs) kl kl':=by exact dU):R Q B w0 kl F:=λw s=>by
 obtain⟨S,⟨S1,S2,q,_⟩,_⟩:=(s.fI hk).own;obtain⟨a,e⟩:=Rf q;exact h a e w s
end
abbrev Oa(b n:Nat):ah:=.slice (some ⟨b,0,some 0⟩) n n
def abo(hS:zK g):
 aX prog (.func 209) [.agg ⟨oz g vh vc⟩] [] [] (tQ g vh vc) N8 (λ_=>[]) (λy=>[nQ (y.e=0) (aj (wY ai) y.v (fT g))]) (λy=>y.e=0↔ic g):=by
 refine En _ (qo 209) λB w0=>?_;refine go ?_;intro b1 b2;refine gC (TE (g:=g) hS) λe he=>?_;refine aO ?_ ?_<;>intro h1
 .refine go ?_;refine tT (c:=(130:Int)=0) (f:=aj (wY ai) (.slice none 0 0) (fT g)) s6 ?_;exact yB ⟨.slice none 0 0,130⟩ (hv:=rfl) (hp:=⟨(λh=>by cases h),λh=>absurd (he.2 h) h1⟩)
 have hg:=he.1 s6;have hgl:=hg.len;have hsb:=Nu hg;have hsl:=tH g;refine go ?_;intro b4 b5;refine go ?_;refine YA (bz:=[pt b4 (.cells Gz),pt b2 (.cells [.slice none 0 0]),pt b1 (.cells (oz g vh vc))]) [] (λ_:Unit=>[]) (λ_=>[pt b5 (.cells [iV (eO g:Int)])]) (λ_=>[]) (λ_=>True) (hx:=?_) (hy:=?_)
 .refine p9 rfl ?_ ?_<;>intro h2
  .refine go ?_;rw[show(4:Int)=(eO g:Int)by unfold eO;rw[if_pos h2];rfl];exact MV () trivial
  .refine go ?_;rw[show(6:Int)=(eO g:Int)by unfold eO;rw[if_neg h2];rfl];exact MV () trivial
 intro _ _;refine go ?_;refine yD jf (λbm=>?_);refine go ?_;intro b6;refine gC (TH (g:=g) (vh:=vh) (vc:=vc)) λbs _=>?_;refine go ?_;refine M6 (Z:=Nat) (λ(m:ae ((Int×Int)×ah)) (x:Int×(Int×Int))=>(upd x.2 (iV x.1) m,.normal)) (λm=>[fV jf bm m,pt b6 (.cells [.map (some bm)])]) (λvs m=>m=fJ vs) [] _ (λx b8=>[pt b8 (.cells [iV x.2.1,iV x.2.2])]) rfl (λvs s x rest hs _ _=>by rw[hs,Sc]) (TF (b1:=bs) (vh:=vh) (vc:=vc) hg) BE ?_ ?_ (λ_ _=>trivial)
 .intro vs s x rest b8 lo L B w0 hs hX;dsimp only[List.cons_append,List.nil_append];refine go ?_;refine vJ abn x.2 (v:=iV x.1) ?_;refine go ?_;exact fg
 intro r1 xs hxs;subst hxs;rw[N9 (λ(m:ae ((Int×Int)×ah)) (x:Int×(Int×Int))=>upd x.2 (iV x.1) m)];dsimp only[List.cons_append,List.nil_append];rw[show(bI g).foldl (λ(m:ae ((Int×Int)×ah)) (x:Int×(Int×Int))=>upd x.2 (iV x.1) m) []=fJ (bI g)from rfl];refine gZ (Ew (b:=bm)) ?_;refine gP b6 ?_;refine go ?_;refine sW g.cells.length ⟨s6,s6,s6⟩ λbl=>?_;rw[show zeros [.slice none 0 0] g.cells.length=List.replicate g.cells.length (.slice none 0 0)from X3 _ _];refine ai1 (nO ai) (x0:=([]:ae Int)) (λw=>⟨.inl ⟨rfl,rfl,rfl⟩,λ_=>rfl⟩) (h:=?_);refine gC (TH (g:=g) (vh:=vh) (vc:=vc)) λbs2 _=>?_;refine go ?_;refine gP b4 ?_;refine gP b5 ?_;have hml:(fD.take (eO g)).length=eO g:=by rw[fU];show min (eO g) 6=_;have:=EE g;omega
 refine eD (aj uH (.slice (some ⟨b4,0,some 0⟩) (eO g) 6) (fD.take (eO g))) (λw h=>ajV (h (bW b4 0 Gz) (dB _ (dD ..))) (EE g)) ?_;refine M6 (Z:=Nat) (λ(xss:ae (ae Int)) (x:Int×(Int×Int))=>(xss.set x.1.toNat (oN g x),.normal)) (λxss=>[qB (nO ai) bl xss,pt b2 (.cells [Oa bl g.cells.length])]) (λvs xss=>xss=vs.map (oN g)++List.replicate (g.cells.length - vs.length) []) (List.replicate g.cells.length []) _ (λx b10=>[pt b10 (.cells [iV x.2.1,iV x.2.2])]) s7 (λvs s x rest hs hX _=>by
  have h1:=Nv hX;rw[hs,h1.1];have:=ZU (A:=vs.map (oN g)) (n:=g.cells.length) (by rw[aR];exact h1.2.1) (oN g x);rw[aR]at this;rw[fM,this,cB,eF];rfl) (TF (b1:=bs2) (vh:=vh) (vc:=vc) hg) BE ?_ ?_ (λ_ _=>trivial)
 .intro vs xss x rest b10 lo L B w0 hs hX;dsimp only[List.cons_append,List.nil_append];obtain⟨hc,hvl,hxm⟩:=Nv hX;have hbx:=hsb x hxm;obtain⟨c,s1,s2⟩:=x;dsimp only at hc hbx;subst hc;have hxk:xss[vs.length]? =some []:=by
   rw[hs,jP s7,aR,nX,HY,if_pos s6]
  have hxl:xss.length=g.cells.length:=by rw[hs];simp;omega
  refine go ?_;refine(cZ rfl rfl (ajY (m:=eO g) rfl rfl (EE g))).h ?_;refine go ?_;refine JF (A:=qB (nO ai) bl xss) (A':=qB (nO ai) bl (xss.set vs.length (ig (fJ (bI g)) (s1,s2) ((fD.take (eO g)).take 0)))) (congrArg (qB (nO ai) bl) (by
   apply iH;intro i;rw[nY];by_cases hi:vs.length=i
   .subst hi;rw[if_pos rfl,if_pos s6,hxk];rfl
   .rw[if_neg hi])) ?_
  refine dV (λj=>eO g - j) (λj:Nat=>[(47,iV (j:Int))]) (λj=>[qB (nO ai) bl (xss.set vs.length (ig (fJ (bI g)) (s1,s2) ((fD.take (eO g)).take j)))]) (λ_=>[]) (λj=>j<=eO g) 0 (bM _) (body:=?_);intro j hj;refine aO ?_ ?_<;>intro h2
  .refine go ?_;obtain⟨dd,hd⟩:∃dd,(fD.take (eO g))[j]? =some dd:=⟨_,bG s6⟩
   have hdb:=ajW dd (xK (aT hd));have hdv:jM (kw Gz (j*2)) 2=some [iV dd.1,iV dd.2]:=ajX (j:=j) (d:=dd) (by rw[rE]at hd;split at hd;exact hd;cases hd)
   have hnr:=ajU (fJ (bI g)) (s1,s2) ((fD.take (eO g)).take j) dd;rw[<- fF hd]at hnr;have hnl:=Nt (fJ (bI g)) (s1,s2) ((fD.take (eO g)).take j);have hjm:=EE g;rw[fU]at hnl;obtain⟨d1,d2⟩:=dd;dsimp only at hdb hdv hnr;refine(Yh (o:=0) (j:=j*2) (cs:=Gz) rfl rfl rfl (dB _ (dB _ (dD ..))) hdv).h ?_;refine go ?_;intro b12;refine go ?_;refine(cZ rfl rfl (F8 (a:=s1) (b:=d1) rfl rfl s6 s6)).h ?_;refine go ?_;refine(cZ rfl rfl (F8 (a:=s2) (b:=d2) rfl rfl s6 s6)).h ?_;refine go ?_;refine aa0 abn (s1+d1,s2+d2) (λv hv hm=>?_) (λhm=>?_)
   .obtain⟨c,rfl,hc⟩:=ZT _ _ hv;rw[hv]at hnr;refine go ?_;refine Ze (nO ai) (b:=bl) (xss:=xss.set vs.length (ig (fJ (bI g)) (s1,s2) ((fD.take (eO g)).take j))) (k:=vs.length) (xs:=ig (fJ (bI g)) (s1,s2) ((fD.take (eO g)).take j)) Hj (h:=λws v JZ hv2=>?_);rw[ku]at JZ;refine Zg ai v (ig (fJ (bI g)) (s1,s2) ((fD.take (eO g)).take j)) (λhz=>?_);refine ol (o:=0+vs.length*1) (cs:=ws) v (by rw[eB,lK];exact hv2) ?_;refine go ?_;intro b43;refine go ?_;refine Y5 (xs:=ig (fJ (bI g)) (s1,s2) ((fD.take (eO g)).take j)) ai c () s6 (next:=λad=>?_);rw[show ig (fJ (bI g)) (s1,s2) ((fD.take (eO g)).take j)++[c]=ig (fJ (bI g)) (s1,s2) ((fD.take (eO g)).take (j+1))from hnr.symm];refine go ?_;refine jN (o:=0+vs.length*1) (cs:=ws) (v:=.slice ad ((ig (fJ (bI g)) (s1,s2) ((fD.take (eO g)).take j)).length+1) ((ig (fJ (bI g)) (s1,s2) ((fD.take (eO g)).take j)).length+1)) (cs':=ws.set vs.length (.slice ad ((ig (fJ (bI g)) (s1,s2) ((fD.take (eO g)).take j)).length+1) ((ig (fJ (bI g)) (s1,s2) ((fD.take (eO g)).take j)).length+1))) (by rw[eB,lK]) s6 ?_;refine Zh ai (.slice ad ((ig (fJ (bI g)) (s1,s2) ((fD.take (eO g)).take j)).length+1) ((ig (fJ (bI g)) (s1,s2) ((fD.take (eO g)).take j)).length+1)) (ig (fJ (bI g)) (s1,s2) ((fD.take (eO g)).take (j+1))) (λe=>by rw[hnr]at e;exact absurd e (by show¬(_++[c]=[]);simp)) ?_;refine Zf (nO ai) (b:=bl) (xss:=xss.set vs.length (ig (fJ (bI g)) (s1,s2) ((fD.take (eO g)).take j))) (vs:=ws) (k:=vs.length) (xs:=ig (fJ (bI g)) (s1,s2) ((fD.take (eO g)).take (j+1))) (by rw[ku];exact JZ) zp (h:=?_);rw[List.set_set];exact eN
   .rw[vN hm]at hnr;refine go ?_;refine JF (A:=qB (nO ai) bl (xss.set vs.length (ig (fJ (bI g)) (s1,s2) ((fD.take (eO g)).take j)))) (A':=qB (nO ai) bl (xss.set vs.length (ig (fJ (bI g)) (s1,s2) ((fD.take (eO g)).take (j+1))))) (congrArg (qB (nO ai) bl) ((by rw[hnr];exact congrArg (xss.set vs.length) (gW _).symm))) ?_;exact aU (j+1) s6 s6
  have hjl:j=eO g:=s6
  subst hjl;refine JF (A:=qB (nO ai) bl (xss.set vs.length (ig (fJ (bI g)) (s1,s2) ((fD.take (eO g)).take (eO g))))) (A':=qB (nO ai) bl (xss.set vs.length (ig (fJ (bI g)) (s1,s2) (fD.take (eO g))))) (congrArg (qB (nO ai) bl) ((congrArg (λz=>xss.set vs.length (ig (fJ (bI g)) (s1,s2) z)) (xP (Nat.le_of_eq hml))))) ?_;refine go ?_;refine Ze (nO ai) (b:=bl) (xss:=xss.set vs.length (ig (fJ (bI g)) (s1,s2) (fD.take (eO g)))) (k:=vs.length) (xs:=ig (fJ (bI g)) (s1,s2) (fD.take (eO g))) Hj (h:=λws v JZ hv2=>?_);rw[ku]at JZ;refine Zg ai v (ig (fJ (bI g)) (s1,s2) (fD.take (eO g))) (λhz=>?_);refine ol (o:=0+vs.length*1) (cs:=ws) v (by rw[eB,lK];exact hv2) ?_;have hn6:=Nt (fJ (bI g)) (s1,s2) (fD.take (eO g));rw[hml]at hn6;have hjm:=EE g;refine Da (E:=ai) (v:=v) (xs:=ig (fJ (bI g)) (s1,s2) (fD.take (eO g))) λa hv=>?_;subst hv;refine iy (JY (a:=a) (zs:=ig (fJ (bI g)) (s1,s2) (fD.take (eO g))) rfl s6) (next:=λ_ _=>?_);refine al5 (b:=bl) (cs:=ws) (cs':=ws.set vs.length (.slice a (ig (fJ (bI g)) (s1,s2) (fD.take (eO g))).length (ig (fJ (bI g)) (s1,s2) (fD.take (eO g))).length)) (ajZ hv2).symm ?_;refine Zh ai (.slice a (ig (fJ (bI g)) (s1,s2) (fD.take (eO g))).length (ig (fJ (bI g)) (s1,s2) (fD.take (eO g))).length) (bK (ig (fJ (bI g)) (s1,s2) (fD.take (eO g)))) (λe=>hz (j6.1 (by rw[<- Bb,e];rfl))) ?_;refine Zf (nO ai) (b:=bl) (xss:=xss.set vs.length (ig (fJ (bI g)) (s1,s2) (fD.take (eO g)))) (vs:=ws) (k:=vs.length) (xs:=bK (ig (fJ (bI g)) (s1,s2) (fD.take (eO g)))) (by rw[ku];exact JZ) zp (h:=?_);refine JF (A:=qB (nO ai) bl ((xss.set vs.length (ig (fJ (bI g)) (s1,s2) (fD.take (eO g)))).set vs.length (bK (ig (fJ (bI g)) (s1,s2) (fD.take (eO g)))))) (A':=qB (nO ai) bl (xss.set ((vs.length:Int)).toNat (oN g ((vs.length:Int),s1,s2)))) (congrArg (qB (nO ai) bl) ((by rw[List.set_set,fM];rfl))) ?_;refine go ?_;exact sV () rfl trivial trivial
 intro r2 EO al8;subst al8;rw[N9 (λ(xss:ae (ae Int)) (x:Int×(Int×Int))=>xss.set x.1.toNat (oN g x))];dsimp only[List.cons_append,List.nil_append];rw[show(bI g).foldl (λ(xss:ae (ae Int)) (x:Int×(Int×Int))=>xss.set x.1.toNat (oN g x)) (List.replicate g.cells.length [])=fT g from aj0 g];refine gZ (ai2 (A:=nO ai) (E:=wY ai) (b:=bl) (xss:=fT g) (c:=(fT g).length) (λv=>v) rfl (λ_ _=>rfl) (λv xs=>ai3)) ?_;rw[CR];refine go ?_;refine vU (c:=(0:Int)=0) (f:=aj (wY ai) (.slice (some ⟨bl,0,some 0⟩) g.cells.length g.cells.length) (fT g)) s7 ?_;exact yB ⟨.slice (some ⟨bl,0,some 0⟩) g.cells.length g.cells.length,0⟩ (hv:=rfl) (hp:=⟨λ_=>hg,λ_=>rfl⟩)
end Go.Proofs.YtoilpafpgndilaaGreat
namespace Go.Proofs.YtoilpafpgndilaaGreat
open Tryz (prog)
open Go.Ideal Kd
def nR(n:Nat)(xs:ae Int):ae ah:=(List.range n).map λj:Nat=>.bool (decide ((j:Int)∈xs))
def abp(n:Nat)(xs:ae Int):(nR n xs).length=n:=by unfold nR;rw[aR,nG]
def al9{n:Nat}{xs:ae Int}{j:Nat}(hj:j<n):(nR n xs)[0+j*1]? =some (.bool (decide ((j:Int)∈xs))):=by
 rw[eB,lK];unfold nR;rw[bU,oI hj];rfl
def ama(n:Nat):zeros [.bool false] n=nR n []:=by
 have h:zeros [.bool false] n=List.replicate n (.bool false):=by
  induction n with
  |zero=>rfl
  |succ n ih=>rw[xO,<- ih];rfl
 rw[h];unfold nR;apply iH;intro i;rw[bU,HY];by_cases hi:i<n
 .rw[oI hi,if_pos hi];simp
 .rw[dW (by rw[nG];omega),if_neg hi];rfl
def amb{b:Nat}{x:Int}:oK (pt b (.cells [iV x])) [aj ai (.slice (some ⟨b,0,some 0⟩) 1 1) [x]]:=qP (xs:=[x])
noncomputable def TJ:=qI prog 94
def abq:mO prog 94=some TJ:=s8
abbrev jK(n:Int):ah:=iV n
def Db:rW prog 3 jK:=aix s8
variable{bm:Nat}{aA:ae (Int×ah)}
def amc:aX prog (.func 348) [.map (some bm)] [] [] [Ba jK bm aA] (λb:Nat=>.func (.func 372) #[] #[ptr' b]) (λ_=>[]) (λb=>[bW b 0 [.map (some bm)],Ba jK bm aA]) (λ_=>True):=by
 refine gB 348 λB w0=>?_;refine go ?_;intro b1;refine go ?_;refine gP b1 ?_;exact gQ b1 trivial
def amd{b:Nat}:CG prog (λx:Int=>[jK x]) (.func 372) [] [ptr' b] [bW b 0 [.map (some bm)],Ba jK bm aA] (λxs=>xs.Perm (aA.map (·.1))):=by
 intro S inv ok step s0 tq y1 y2 F' h0 hok hy;rw[dm,dm,cK];refine gB 372 λB w0=>?_;refine go ?_;refine aiA (b:=bm) (aA:=aA) (bB:=jK) (next:=λr=>?_);refine go ?_;refine dV (λy:ae (Int×ah)×S=>aA.length - y.1.length) (λy=>[]) (λy=>Gh jK r bm aA y.1::inv y.2) (λ_=>[]) (λy=>ok (y.1.map (·.1)) y.2/\(∃rest,(y.1++rest).Perm aA)/\∀rest,dA step s0 (y.1.map (·.1)++rest)=dA step y.2 rest) ([],s0) ⟨h0,⟨aA,.refl _⟩,λ_=>rfl⟩ (body:=?_);rintro⟨di,s⟩ ⟨hos,_,hrun⟩;dsimp only at hos hrun⊢;refine go ?_;refine aiC (b:=bm) (aA:=aA) (di:=di) (bB:=jK) (more:=λp rem hp=>?_) (done:=λhp=>?_) aj1
 .have hX:(di.map (·.1)++p.1::rem.map (·.1)).Perm (aA.map (·.1)):=by
   have:=hp.map (·.1);rw[cB,fA]at this;exact this
  have hlen:=hp.length_eq;rw[eF,nW]at hlen;have gy:=hy _ s _ _ hos hX;refine go ?_;refine aiH (bB:=jK) (aA:=aA) (di:=di) (p:=p) ?_;refine gC gy λ_ _=>?_;cases hst:(step s p.1).2 with
  |true=>
   have hs1:step s p.1=((step s p.1).1,true):=Prod.ext rfl hst;refine go ?_;refine aU (di++[p],(step s p.1).1) (by show aA.length - (di++[p]).length<_;rw[eF,u7];omega) ⟨?_,⟨rem,by show((di++[p])++rem).Perm aA;rw[List.append_assoc];exact hp⟩,λrest=>?_⟩
   .show ok ((di++[p]).map (·.1)) _;rw[cB];exact hok _ s _ _ hos hX hst
   .show dA step s0 ((di++[p]).map (·.1)++rest)=_;rw[cB,List.append_assoc,hrun];show dA step s (p.1::rest)=_;rw[dA,hs1]
  |false=>
   have hs1:step s p.1=((step s p.1).1,false):=Prod.ext rfl hst;have hr:=hrun (p.1::rem.map (·.1));rw[dA,hs1]at hr;dsimp only at hr;refine go ?_;exact gQ (di.map (·.1)++p.1::rem.map (·.1)) hX (hk:=by rw[hr];exact aF.self _ _)
 .refine go ?_;have hr:=hrun [];rw[gW]at hr;exact gQ (di.map (·.1)) (hp.map (·.1)) (hk:=by rw[hr];apply aF.there;exact aF.all _)
structure GU where
 v:Value
 xs:List Int
variable{fn:Fn}{first captured:ae ah}{F1:ae aI}{X:ae Int->Prop}
def ame(hit:CG prog (λx:Int=>[jK x]) fn first captured F1 X)(hl:∀xs,X xs->xs.length<=1000000):
 aX prog (.func 162) [.slice none 0 0,.func fn ⟨first⟩ ⟨captured⟩] [] [] F1 (λy:GU=>y.v) (λy=>[ap ai y.v y.xs]) (λ_=>[]) (λy=>X y.xs):=by
 refine En Tk aaO λB w0=>?_;refine go ?_;intro b2;refine lT ai ?_;refine uC (λv:ah=>[pt b2 (.cells [v]),ap ai v ([]:ae Int)]) (.slice none 0 0) (h:=?_);refine M6 (Z:=Nat) (λ(ys:ae Int) (x:Int)=>(ys++[x],Out.normal)) (λys=>[aaR ai b2 ys]) (λvs ys=>ys=vs) [] _ (λ_ _=>[]) rfl (λvs s x rest hs hX _=>by rw[hs]) hit DS ?_ ?_ (λ_ _=>trivial)
 .exact cS
 .exact cV
def amf(hit:CG prog (λx:Int=>[jK x]) fn first captured F1 X)(hl:∀xs,X xs->xs.length<=1000000):
 aX prog (.func 125) [.func fn ⟨first⟩ ⟨captured⟩] [] [] F1 (λy:GU=>y.v) (λy=>[ap ai y.v y.xs]) (λ_=>[]) (λy=>X y.xs):=by
 refine mq Tm aaP λB w0=>?_;refine gC (ame hit hl) λy hy=>?_;dsimp only[List.cons_append,List.nil_append];refine go ?_;exact gQ y hy
def TK(hit:CG prog (λx:Int=>[jK x]) fn first captured F1 X)(hl:∀xs,X xs->xs.length<=1000000):
 aX prog (.func 94) [.func fn ⟨first⟩ ⟨captured⟩] [] [] F1 (λy:GU=>y.v) (λy=>[ap ai y.v (bK y.xs)]) (λ_=>[]) (λy=>X y.xs):=by
 refine mq TJ abq λB w0=>?_;refine gC (amf hit hl) λy hy=>?_;obtain⟨v,xs⟩:=y;dsimp only[List.cons_append,List.nil_append]at hy⊢;have hlen:=hl _ hy;refine Da (E:=ai) (v:=v) (xs:=xs) λa hv=>?_;subst hv;refine gC (JY (a:=a) (zs:=xs) rfl s6) λ_ _=>?_;refine go ?_;exact gQ ⟨.slice a xs.length xs.length,xs⟩ hy
def J2{g:bQ}{vh vc:ah}{kf:Int×Int->Int×Bool}(hg:ic g)
 (hk:∀p∈bI g,aX prog fn (first++[jf p.2]) captured [] F1 (λ_:Unit=>.tuple ⟨[iV (kf p.2).1,.bool (kf p.2).2]⟩) (λ_=>[]) (λ_=>[]) (λ_=>True)):
 aX prog (.func 309) [.agg ⟨oz g vh vc⟩,.func fn ⟨first⟩ ⟨captured⟩] [] [] (aj ai vh g.holes::aj ai vc g.cells::F1) (λv:ah=>v) (λv=>[ap (az ai) v (lc g kf)]) (λ_=>[]) (λ_=>True):=by
 have hgl:=hg.len;have hsl:=tH g;refine En _ (qo 309) λB w0=>?_;refine go ?_;intro b2 b3;refine go ?_;refine yD jK (λbm=>?_);refine go ?_;intro b5;refine aiV ai (b:=bm) (bB:=jK) ?_;refine gC (TH (g:=g) (vh:=vh) (vc:=vc)) λbs _=>?_;refine go ?_;refine M6 (Z:=Nat) (λ(m:ae (Int×ae Int)) (x:Int×(Int×Int))=>(zC kf m x,.normal)) (λm=>[JD jK ai bm m,pt b5 (.cells [.map (some bm)]),pt b3 (.cells [.func fn ⟨first⟩ ⟨captured⟩])]) (λvs m=>m=j5 kf vs) [] _ (λx b8=>[pt b8 (.cells [iV x.2.1,iV x.2.2])]) rfl (λvs s x rest hs _ _=>by rw[hs,JM]) (TF (b1:=bs) (vh:=vh) (vc:=vc) hg) BE ?_ ?_ (λ_ _=>trivial)
 .intro vs s x rest b8 lo L B w0 hs hX;dsimp only[List.cons_append,List.nil_append];obtain⟨hc,hvl,hxm⟩:=Nv hX;have hkx:=hk x hxm;have hin:=Sd kf vs.length vs rfl;rw[<- hs]at hin;have hst:zC kf s x=cond (kf x.2).2 (upd (kf x.2).1 ((dF (kf x.2).1 s).getD []++[x.1]) s) s:=rfl;rw[hst];obtain⟨c,s1,s2⟩:=x;dsimp only at hc hkx hst⊢;subst hc;rcases hq:kf (s1,s2)with⟨kn,kb⟩
  rw[hq]at hkx;dsimp only at hkx⊢;refine gC hkx λ_ _=>?_;cases kb with
  |false=>
   dsimp only[cond];refine go ?_;exact fg
  |true=>
   dsimp only[cond];have hln:=hin.2 kn;refine go ?_;refine aiW (bB:=jK) (E:=ai) (b:=bm) (m:=s) kn (h:=λaA v hkeys hv=>?_);refine Ex (b:=bm) (aA:=aA) Db kn ?_;rw[hv];refine go ?_;intro b30;refine go ?_;refine Y5 (xs:=(dF kn s).getD []) ai (vs.length:Int) () s6 (next:=λad=>?_);refine go ?_;refine vJ (b:=bm) (v:=.slice ad (((dF kn s).getD []).length+1) (((dF kn s).getD []).length+1)) (aA:=aA) Db kn ?_;refine aiX (E:=ai) (v:=.slice ad (((dF kn s).getD []).length+1) (((dF kn s).getD []).length+1)) (xs:=(dF kn s).getD []++[(vs.length:Int)]) kn hkeys ?_;refine go ?_;exact fg
 .intro r xs hX;subst hX;rw[N9 (zC kf)];dsimp only[List.cons_append,List.nil_append];rw[show(bI g).foldl (zC kf) []=j5 kf (bI g)from rfl];have hin:=Sd kf _ (bI g) rfl;rw[hsl]at hin;have hL:lc g kf=(bK ((j5 kf (bI g)).map (·.1))).map λn=>(dF n (j5 kf (bI g))).getD []:=rfl;generalize hm:j5 kf (bI g)=m at hin hL⊢;refine aiY (bB:=jK) (E:=ai) (b:=bm) (m:=m) (λaA hkeys=>?_);have hkl:aA.length=m.length:=by have:=congrArg List.length hkeys;simpa using this
  refine gZ (Ew (bB:=jK) (b:=bm) (aA:=aA)) ?_;refine gZ (aiZ (E:=ai) (aA:=aA) (m:=m) hkeys) ?_;refine gP b5 ?_;refine gC (amc (bm:=bm) (aA:=aA)) λbk _=>?_;refine gC (TK (amd (b:=bk) (bm:=bm) (aA:=aA)) (λxs h=>by have:=h.length_eq;rw[aR]at this;omega)) λy hy=>?_;obtain⟨vk,ks⟩:=y;dsimp only[List.cons_append,List.nil_append]at hy⊢;have hks:bK ks=bK (m.map (·.1)):=ajT (by rw[<- hkeys];exact hy);rw[hks];have hkn:(bK (m.map (·.1))).length=m.length:=by rw[Bb,aR]
  have hmem:∀n∈bK (m.map (·.1)),n∈m.map (·.1):=λn h=>GA.1 h;generalize hK:bK (m.map (·.1))=ns at hkn hL hmem⊢;refine gZ (jr (E:=ai) (v:=vk) (xs:=ns)) ?_;refine gF ai vk ns λa c e=>?_;subst e;refine go ?_;refine lT (az ai) ?_;refine dV (λy:Nat×ah=>ns.length - y.1) (λy=>[(36,iV (y.1:Int)),(4,y.2)]) (λy=>[ap (az ai) y.2 ((ns.take y.1).map λn=>(dF n m).getD [])]) (λ_=>[]) (λy=>y.1<=ns.length) (0,.slice none 0 0) (bM _) (hk:=s9) (body:=?_);rintro⟨k,v4⟩ hk2;dsimp only at hk2⊢;refine aO ?_ ?_<;>intro h1
  .refine go ?_;intro _ _ n hn;obtain⟨v,hv⟩:=JL (a:=n) (l:=aA) (by rw[hkeys];exact hmem n (aT hn));obtain⟨xs,hxs⟩:=JL (a:=n) (l:=m) (hmem n (aT hn));have hlv:jJ false (.slice none 0 0) n aA=v:=by unfold jJ;rw[hv];rfl
   have htk:(ns.take (k+1)).map (λn=>(dF n m).getD [])=(ns.take k).map (λn=>(dF n m).getD [])++[xs]:=by
    rw[fF hn,cB,l6,hxs];rfl
   have hxl:((ns.take k).map (λn=>(dF n m).getD [])).length=k:=z6
   refine eD (aj ai v xs) (λw hw=>hw (Y8 ai aA m) s7 n v xs hv hxs) ?_;refine gF ai v xs λa2 c2 e2=>?_;subst e2;refine go ?_;refine Rz (bB:=jK) (b:=bm) (aA:=aA) Db n ?_;rw[hlv];refine go ?_;intro b44;refine go ?_;refine kY (xs:=(ns.take k).map λn=>(dF n m).getD []) (az ai) xs (.slice a2 xs.length c2) (by rw[hxl];omega) (next:=λad=>?_);rw[<- htk];refine go ?_;exact aU (k+1,.slice ad (((ns.take k).map λn=>(dF n m).getD []).length+1) (((ns.take k).map λn=>(dF n m).getD []).length+1)) (by show ns.length - (k+1)<ns.length - k;omega) tD
  have hke:k=ns.length:=s6
  subst hke;rw[fu,<- hL];refine go ?_;exact yB v4 (hv:=rfl) (hp:=trivial)
end Go.Proofs.YtoilpafpgndilaaGreat
namespace Go.Proofs.YtoilpafpgndilaaGreat
open Tryz (prog)
open Go.Ideal Kd
abbrev J3(fn:Fn)(first captured:ae ah)(F1:ae aI)(g:bQ)(kf:Int×Int->Int×Bool):Prop:=
 ∀p∈bI g,aX prog fn (first++[jf p.2]) captured [] F1 (λ_:Unit=>.tuple ⟨[iV (kf p.2).1,.bool (kf p.2).2]⟩) (λ_=>[]) (λ_=>[]) (λ_=>True)
variable{g:bQ}
def amh:J3 (.func 310) [] [] [] g (λs=>(s.2,true)):=λp hp=>by
 refine gB 310 λB w0=>?_;refine go ?_;intro b1;exact eH
def ami:J3 (.func 311) [] [] [] g (λs=>(s.1,true)):=λp hp=>by
 refine gB 311 λB w0=>?_;refine go ?_;intro b1;exact eH
def amj(hg:ic g):J3 (.func 349) [] [] [] g (λs=>(s.1+s.2,true)):=λp hp=>by
 have hb:=Nu hg p hp;obtain⟨c,s1,s2⟩:=p;dsimp only at hb⊢;refine gB 349 λB w0=>?_;refine go ?_;intro b1;exact eH
def amk(hg:ic g):J3 (.func 350) [] [] [] g (λs=>(0,decide (s.1=s.2))):=λp hp=>by
 have hb:=Nu hg p hp;refine gB 350 λB w0=>?_;refine go ?_;intro b1;exact eH
variable{vh vc:ah}
def aml{b:Nat}(hg:ic g):J3 (.func 351) [] [ptr' b] [bW b 0 (oz g vh vc)] g (λs=>(0,decide (s.1+s.2=g.w - 1))):=λp hp=>by
 have hb:=Nu hg p hp;obtain⟨c,s1,s2⟩:=p;dsimp only at hb⊢;have hw:=hg.make.wi;refine gB 351 λB w0=>?_;refine go ?_;intro b1;exact eH
def amm(hg:ic g):
 aX prog (.func 312) [.agg ⟨oz g vh vc⟩] [] [] (tQ g vh vc) (λv:ah=>v) (λv=>[ap (az ai) v (vP g)]) (λ_=>[]) (λ_=>True):=by
 refine gB 312 λB w0=>?_;refine go ?_;intro b1;refine gP b1 ?_;refine aO ?_ ?_<;>intro h1
 .refine gC (J2 (kf:=λs=>(s.1+s.2,true)) (vh:=vh) (vc:=vc) hg (amj hg)) λv _=>?_;refine go ?_;exact gQ v trivial (hk:=by unfold vP;rw[if_pos h1];exact aF.all _)
 refine aO ?_ ?_<;>intro h2
 .refine go ?_;refine lT (az ai) ?_;exact gQ (.slice none 0 0) trivial (hk:=by unfold vP;rw[if_neg h1,if_neg h2];exact aF.all _)
 have h2:g.w=g.h:=kv.1 h2;refine gC (J2 (kf:=λs=>(0,decide (s.1=s.2))) (vh:=vh) (vc:=vc) hg (amk hg)) λva _=>?_;refine gC (J2 (kf:=λs=>(0,decide (s.1+s.2=g.w - 1))) (vh:=vh) (vc:=vc) hg (aml (vh:=vh) (vc:=vc) (b:=b1) hg)) λvb _=>?_;have hA:=Nw hg (λs=>(0,decide (s.1=s.2)));have hB:=Nw hg (λs=>(0,decide (s.1+s.2=g.w - 1)));have hD:vP g=oO (lc g (λs=>(0,decide (s.1=s.2)))) (lc g (λs=>(0,decide (s.1+s.2=g.w - 1)))):=by unfold vP;rw[if_neg h1,if_pos h2]
 generalize lc g (λs=>(0,decide (s.1=s.2)))=la at hA hD⊢;generalize lc g (λs=>(0,decide (s.1+s.2=g.w - 1)))=lb at hB hD⊢;have hF:=Sg hA.2 hB.2;refine gZ (jr (E:=az ai) (v:=vb) (xs:=lb)) ?_;refine gF (az ai) vb lb λa c e=>?_;subst e;refine go ?_;refine dV (λy:Nat×ah=>lb.length - y.1) (λy=>[(22,iV (y.1:Int)),(3,y.2)]) (λy=>[ap (az ai) y.2 (oO la (lb.take y.1))]) (λ_=>[]) (λy=>y.1<=lb.length) (0,va) (bM _) (hk:=s9) (body:=?_);rintro⟨k,v3⟩ hk2;dsimp only at hk2⊢;have TL:=hF k;refine aO ?_ ?_<;>intro h3
 .refine gX (az ai) (xs:=lb) λ_ _ ln (vl:ah) hl=>?_;have hs:=ZW (a:=la) hl;have hll:=hB.2 ln (aT hl);generalize oO la (lb.take k)=acc at TL hs⊢;refine Da (E:=az ai) (v:=v3) (xs:=acc) λa3 e3=>?_;subst e3;refine gF ai vl ln λa4 c4 e4=>?_;subst e4;cases acc with
  |nil=>
   have hs2:oO la (lb.take (k+1))=[]++[ln]:=hs;refine go ?_;intro b39;refine go ?_;refine kY (xs:=([]:ae (ae Int))) (az ai) ln (.slice a4 ln.length c4) s7 (next:=λad=>?_);rw[<- hs2];refine go ?_;exact aU (k+1,.slice ad (([]:ae (ae Int)).length+1) (([]:ae (ae Int)).length+1)) BT tD
  |cons a0 acc=>
   have ha0:=TL.2 a0 (dD ..);refine go ?_;refine Zb ai 0 a0 rfl (next:=λ_ _ u=>?_);refine gC (vR (xs:=a0) (ys:=ln) s6) λ_ _=>?_;by_cases h4:a0=ln
   rotate_left
   .rw[bY h4];have hs2:oO la (lb.take (k+1))=(a0::acc)++[ln]:=by rw[hs];unfold Bg;rw[if_neg (show¬((a0::acc).head? =some ln)from λe=>h4 (Option.some.inj e))]
    refine go ?_;intro b39;refine go ?_;refine kY (xs:=a0::acc) (az ai) ln (.slice a4 ln.length c4) (by have:=TL.1;omega) (next:=λad=>?_);rw[<- hs2];refine go ?_;exact aU (k+1,.slice ad ((a0::acc).length+1) ((a0::acc).length+1)) BT tD
   .rw[eT h4];have hs2:oO la (lb.take (k+1))=a0::acc:=by rw[hs];unfold Bg;rw[if_pos (by rw[h4];rfl)]
    rw[show ap (az ai) (Value.slice a3 (a0::acc).length (a0::acc).length) (a0::acc)=ap (az ai) (Value.slice a3 (a0::acc).length (a0::acc).length) (oO la (lb.take (k+1)))from congrArg _ hs2.symm];refine go ?_;exact aU (k+1,.slice a3 (a0::acc).length (a0::acc).length) BT tD
 have hke:k=lb.length:=s6
 subst hke;rw[fu,<- hD];refine go ?_;exact gQ v3 trivial
end Go.Proofs.YtoilpafpgndilaaGreat
namespace Go.Proofs.YtoilpafpgndilaaGreat
open Tryz (prog)
open Go.Ideal Kd
def amo{c:Nat}:fC prog 52 [.slice none 0 c] [] (λ_:Unit=>.slice none 0 0) (λ_=>True):=by
 refine mq N7 Tz λB w0=>?_;refine go ?_;refine(cZ rfl rfl (Gi (e:=3) s8 rfl)).h ?_;exact eH
def amq{v:ah}{xs:ae Int}(hl:xs.length<=4096):aX prog (.func 52) [v] [] [] [aj ai v xs,Na v xs] (λv':ah=>v') (λv'=>[ap ai v' xs]) (λ_=>[]) (λ_=>True):=by
 intro B w s;by_cases hx:xs=[]
 .have hv:v=.slice none 0 0:=s.facts (Na v xs) (dB _ (dD ..)) hx;subst hx hv;refine .uy _ (amo (c:=0) B w ⟨s.agree,s.le,s.fH,s.own,λf hf=>(by cases hf)⟩) ?_;rintro r pm h' ⟨hp,w',y,e1,st,e2,_⟩;obtain⟨S,q1,q2,q3⟩:=st.own;exact⟨hp,w',.slice none 0 0,e1,⟨st.agree,st.le,st.fH,⟨S,⟨[],S,.inl ⟨rfl,rfl,rfl⟩,q1,rfl⟩,q2,q3⟩,st.facts⟩,e2,trivial⟩
 .obtain⟨aC,h1,h2⟩:=YS (s.facts (aj ai v xs) (dD ..));have hlen:aC.length=xs.length:=by rw[<- h1,aR]
  refine .uy _ (abm (v:=v) (aC:=aC) s6 B w ⟨s.agree,s.le,s.fH,s.own,λf hf=>by rw[bA.1 hf];exact h2⟩) ?_;rintro r pm h' ⟨hp,w',y,e1,st,e2,_⟩;subst h1;exact⟨hp,w',y,e1,st.Zj (by rw[hlen];exact Fb.2 hx) (λp hp f hf=>by cases hf),e2,trivial⟩
abbrev lsF(g:bQ)(k:Int)(y:TI):ae aI:=[nQ (y.e=0) (aj (az ai) y.v (iP g k))]
def amr{g:bQ}{vh vc:ah}{k:Int}(hS:zK g):
 aX prog (.func 210) [.agg ⟨oz g vh vc⟩,iV k] [] [] (tQ g vh vc) N8 (λ_=>[]) (λy=>lsF g k y) (λy=>y.e=0↔ic g/\0<=k/\k<=7):=by
 refine gB 210 λB w0=>?_;refine go ?_;intro b2;refine gP b2 ?_;refine gC (abo (g:=g) (vh:=vh) (vc:=vc) hS) λy hy=>?_;obtain⟨vn,e⟩:=y;dsimp only at hy⊢;refine aO ?_ ?_<;>intro h1
 .refine go ?_;refine tT (c:=e=0) (f:=aj (az ai) (.slice none 0 0) (iP g k)) h1 ?_;exact gQ ⟨.slice none 0 0,e⟩ ⟨(λh=>absurd h h1),λh=>absurd (hy.2 h.1) h1⟩
 have he:e=0:=kv.1 h1;subst he;have hg:=hy.1 rfl;have hgl:=hg.len;have hnl:=CR g;have hnm:=Nz (g:=g);refine eD (aj (wY ai) vn (fT g)) (λw hw=>hw (nQ ((0:Int)=0) (aj (wY ai) vn (fT g))) s7 rfl) ?_;refine eD (aj (az ai) vn (fT g)) (λw hw=>Zi (hw (aj (wY ai) vn (fT g)) s7)) ?_;refine gF (az ai) vn (fT g) λan cn en=>?_;subst en;refine aO (λhk=>?_) (λhk0=>?_)
 .subst hk;have hf:iP g 0=pI g.cells.length:=by simp[iP]
  refine go ?_;refine lT (az ai) ?_;refine dV (λy:Nat×ah=>g.cells.length - y.1) (λy=>[(31,iV (y.1:Int)),(4,y.2)]) (λy=>[ap (az ai) y.2 (pI y.1)]) (λ_=>[]) (λy=>y.1<=g.cells.length) (0,.slice none 0 0) (bM _) (hk:=s9) (body:=?_);rintro⟨i,v4⟩ hi;dsimp only at hi⊢;have hil:=Si i;refine aO ?_ ?_<;>intro h2
  .refine go ?_;intro Ob b37;refine mD (A:=pt Ob (.cells [iV (i:Int)])) (fs:=[aj ai (.slice (some ⟨Ob,0,some 0⟩) 1 1) [(i:Int)]]) (qP (b:=Ob) (f:=0) (c:=1) (xs:=[(i:Int)])) (h:=?_);refine go ?_;refine kY (xs:=pI i) (az ai) [(i:Int)] (.slice (some ⟨Ob,0,some 0⟩) 1 1) s6 (next:=λad=>?_);rw[<- aj2];refine go ?_;exact aU (i+1,.slice ad ((pI i).length+1) ((pI i).length+1)) D0 u9
  have hie:i=g.cells.length:=s6
  subst hie;refine gZ (jr (E:=az ai) (v:=v4) (xs:=pI g.cells.length)) ?_;refine go ?_;refine vU (c:=(0:Int)=0) (f:=aj (az ai) v4 (iP g 0)) tE ?_;exact jp
 refine aO (λhk=>?_) (λhk1=>?_)
 .subst hk;have hf:iP g 1=lc g (λs=>(s.2,true)):=by simp[iP]
  refine gC (J2 (kf:=λs=>(s.2,true)) (vh:=vh) (vc:=vc) hg amh) λv4 _=>?_;refine gZ (jr (E:=az ai) (v:=v4) (xs:=lc g (λs=>(s.2,true)))) ?_;refine go ?_;refine vU (c:=(0:Int)=0) (f:=aj (az ai) v4 (iP g 1)) tE ?_;exact gQ ⟨v4,0⟩ ⟨λ_=>⟨hg,s6,s6⟩,λ_=>rfl⟩
 refine aO (λhk=>?_) (λhk2=>?_)
 .subst hk;have hf:iP g 2=lc g (λs=>(s.1,true)):=by simp[iP]
  refine gC (J2 (kf:=λs=>(s.1,true)) (vh:=vh) (vc:=vc) hg ami) λv4 _=>?_;refine gZ (jr (E:=az ai) (v:=v4) (xs:=lc g (λs=>(s.1,true)))) ?_;refine go ?_;refine vU (c:=(0:Int)=0) (f:=aj (az ai) v4 (iP g 2)) tE ?_;exact gQ ⟨v4,0⟩ ⟨λ_=>⟨hg,s6,s6⟩,λ_=>rfl⟩
 refine aO (λhk=>?_) (λhk3=>?_)
 .subst hk;have hf:iP g 3=vP g:=by simp[iP]
  refine gC (amm (vh:=vh) (vc:=vc) hg) λv4 _=>?_;refine gZ (jr (E:=az ai) (v:=v4) (xs:=vP g)) ?_;refine go ?_;refine vU (c:=(0:Int)=0) (f:=aj (az ai) v4 (iP g 3)) tE ?_;exact gQ ⟨v4,0⟩ ⟨λ_=>⟨hg,s6,s6⟩,λ_=>rfl⟩
 refine aO (λhk=>?_) (λhk4=>?_)
 .subst hk;have hf:iP g 4=fT g:=by simp[iP]
  refine go ?_;refine vU (c:=(0:Int)=0) (f:=aj (az ai) (.slice an (fT g).length cn) (iP g 4)) tE ?_;exact gQ ⟨.slice an (fT g).length cn,0⟩ ⟨λ_=>⟨hg,s6,s6⟩,λ_=>rfl⟩
 refine aO (λhk=>?_) (λhk5=>?_)
 .subst hk;have hf:iP g 5=qW (fT g):=by simp[iP]
  generalize fT g=aP at hnl hnm hf⊢;refine go ?_;refine lT (az ai) ?_;refine dV (λy:Nat×ah=>aP.length - y.1) (λy=>[(59,iV (y.1:Int)),(4,y.2)]) (λy=>[ap (az ai) y.2 (qW (aP.take y.1))]) (λ_=>[]) (λy=>y.1<=aP.length) (0,.slice none 0 0) (bM _) (hk:=s9) (body:=?_);rintro⟨i,v4⟩ hi;dsimp only at hi⊢;have hil:(qW (aP.take i)).length=i:=by rw[ZX,fU];omega
  refine aO ?_ ?_<;>intro h2
  .refine gX (wY ai) (xs:=aP) λ_ _ ln (vl:ah) hl=>?_;have hll:=hnm ln (aT hl);refine gC (amq (v:=vl) (xs:=ln) s6) λOc _=>?_;refine go ?_;intro b67;refine go ?_;refine kY (xs:=ln) ai (i:Int) () s6 (next:=λad=>?_);refine go ?_;have hl1:ln.length+1=(ln++[(i:Int)]).length:=by simp
   rw[hl1];refine iy (JY (a:=ad) (zs:=ln++[(i:Int)]) rfl tc) (next:=λ_ _=>?_);have hz0:bK (ln++[(i:Int)])≠[]:=λe=>by have:=Bb (ln++[(i:Int)]);rw[e]at this;simp at this
   have hfs:=aj3 hl;generalize hzz:bK (ln++[(i:Int)])=zs at hfs⊢;refine gZ (jr (E:=ai) (v:=.slice ad (ln++[(i:Int)]).length (ln++[(i:Int)]).length) (xs:=zs)) ?_;refine go ?_;intro b73;refine go ?_;refine kY (xs:=qW (aP.take i)) (az ai) zs (.slice ad (ln++[(i:Int)]).length (ln++[(i:Int)]).length) s6 (next:=λTM=>?_);rw[<- hfs];refine go ?_;exact aU (i+1,.slice TM ((qW (aP.take i)).length+1) ((qW (aP.take i)).length+1)) D3 u9
  have hie:i=aP.length:=s6
  subst hie;rw[fu];refine gZ (jr (E:=az ai) (v:=v4) (xs:=qW aP)) ?_;refine go ?_;refine vU (c:=(0:Int)=0) (f:=aj (az ai) v4 (iP g 5)) tE ?_;exact jp
 refine aO (λhk=>?_) (λhk6=>?_)
 .subst hk;have hf:iP g 6=mH (fT g):=by simp[iP]
  generalize fT g=aP at hnl hnm hf⊢;have h6:=Sj hnm;refine go ?_;refine lT (az ai) ?_;refine dV (λy:Nat×ah=>aP.length - y.1) (λy=>[(80,iV (y.1:Int)),(4,y.2)]) (λy=>[ap (az ai) y.2 (mH (aP.take y.1))]) (λ_=>[]) (λy=>y.1<=aP.length) (0,.slice none 0 0) (bM _) (hk:=s9) (body:=?_);rintro⟨i,v4⟩ hi;dsimp only at hi⊢;have hil:=h6 i hi;refine aO ?_ ?_<;>intro h2
  .refine gX (az ai) (xs:=aP) λ_ _ ln (vl:ah) hl=>?_;have hll:=hnm ln (aT hl);have hfs:=ZZ hl;refine gF ai vl ln λa4 c4 e4=>?_;subst e4;refine go ?_;refine dV (λy:Nat×ah=>ln.length - y.1) (λy=>[(87,iV (y.1:Int)),(4,y.2)]) (λy=>[ap (az ai) y.2 (mH (aP.take i)++oP i (ln.take y.1))]) (λ_=>[]) (λy=>y.1<=ln.length) (0,v4) (bM _) (hk:=by rw[show mH (aP.take i)++oP i (ln.take 0)=mH (aP.take i)from gW _];repeat (first|exact aF.nil|(apply aF.cons;(focus (repeat (first|exact aB.here|apply aB.there)))))) (body:=?_);rintro⟨j,v5⟩ hj;dsimp only at hj⊢;have hpl:=ZY i (ln.take j);rw[fU]at hpl;have hal:(mH (aP.take i)++oP i (ln.take j)).length<=2000:=by rw[eF];omega
   refine aO ?_ ?_<;>intro h3
   .refine go ?_;intro _ _ x hx;have hps:=aj4 (i:=i) hx;refine aO ?_ ?_<;>intro h4
    .have TN:mH (aP.take i)++oP i (ln.take (j+1))=(mH (aP.take i)++oP i (ln.take j))++[[(i:Int),x]]:=by rw[hps,if_pos s6,List.append_assoc]
     refine go ?_;intro Od b98;refine mD (A:=pt Od (.cells [iV (i:Int),iV x])) (fs:=[aj ai (.slice (some ⟨Od,0,some 0⟩) 2 2) [(i:Int),x]]) (qP (b:=Od) (f:=0) (c:=2) (xs:=[(i:Int),x])) (h:=?_);refine go ?_;refine kY (xs:=mH (aP.take i)++oP i (ln.take j)) (az ai) [(i:Int),x] (.slice (some ⟨Od,0,some 0⟩) 2 2) s6 (next:=λTM=>?_);rw[<- TN];refine go ?_;exact aU (j+1,.slice TM ((mH (aP.take i)++oP i (ln.take j)).length+1) ((mH (aP.take i)++oP i (ln.take j)).length+1)) D4 z7
    .have TN:mH (aP.take i)++oP i (ln.take (j+1))=mH (aP.take i)++oP i (ln.take j):=by rw[hps,if_neg s6,gW]
     rw[<- TN];refine go ?_;exact aU (j+1,v5) D4 z7
   have jT:j=ln.length:=s6
   subst jT;rw[fu,<- hfs];refine go ?_;exact aU (i+1,v5) D3 u9
  have hie:i=aP.length:=s6
  subst hie;rw[fu];refine gZ (jr (E:=az ai) (v:=v4) (xs:=mH aP)) ?_;refine go ?_;refine vU (c:=(0:Int)=0) (f:=aj (az ai) v4 (iP g 6)) tE ?_;exact jp
 refine aO (λhk=>?_) (λhk7=>?_)
 .subst hk;have hf:iP g 7=[upTo' g.cells.length]:=by simp[iP]
  refine go ?_;refine lT ai ?_;refine dV (λy:Nat×ah=>g.cells.length - y.1) (λy=>[(107,iV (y.1:Int)),(15,y.2)]) (λy=>[ap ai y.2 (upTo' y.1)]) (λ_=>[]) (λy=>y.1<=g.cells.length) (0,.slice none 0 0) (bM _) (hk:=s9) (body:=?_);rintro⟨i,v15⟩ hi;dsimp only at hi⊢;have hil:=kK i;refine aO ?_ ?_<;>intro h2
  .refine go ?_;intro atB;refine go ?_;refine kY (xs:=upTo' i) ai (i:Int) () s6 (next:=λad=>?_);rw[<- Ny];refine go ?_;exact aU (i+1,.slice ad ((upTo' i).length+1) ((upTo' i).length+1)) D0 u9
  have hie:i=g.cells.length:=s6
  subst hie;refine gZ (jr (E:=ai) (v:=v15) (xs:=upTo' g.cells.length)) ?_;refine gF ai v15 (upTo' g.cells.length) λa4 c4 e4=>?_;subst e4;refine go ?_;intro Oe;refine gP Oe ?_;refine eD (aj (az ai) (Oa Oe 1) [upTo' g.cells.length]) (λw hw=>aip (v:=.slice a4 (upTo' g.cells.length).length c4) (hw _ s7) (hw _ s7)) ?_;refine go ?_;refine vU (c:=(0:Int)=0) (f:=aj (az ai) (Oa Oe 1) (iP g 7)) tE ?_;exact gQ ⟨Oa Oe 1,0⟩ ⟨λ_=>⟨hg,s6,s6⟩,λ_=>rfl⟩
 refine go ?_;refine tT (c:=(1:Int)=0) (f:=aj (az ai) (.slice none 0 0) (iP g k)) s6 ?_;exact gQ ⟨.slice none 0 0,1⟩ ⟨(λh=>by cases h),(λh=>by exfalso;obtain⟨_,q1,q2⟩:=h;omega)⟩
abbrev rgF(g:bQ)(rs:ae (ae Int))(y:TI):ae aI:=[nQ (y.e=0) (aj (az ai) y.v (jk g rs))]
def abu{g:bQ}{vh vc vr:ah}{rs:ae (ae Int)}(hS:zK g)(hrl:rs.length<2^63)(hrs:∀ps∈rs,ps.length<2^63):
 aX prog (.func 211) [.agg ⟨oz g vh vc⟩,vr] [] [] (aj (az ai) vr rs::tQ g vh vc) N8 (λ_=>[]) (λy=>rgF g rs y) (λy=>y.e=0↔ic g/\xe g rs):=by
 refine gB 211 λB w0=>?_;refine gF (az ai) vr rs λar cr er=>?_;subst er;refine go ?_;intro b2;refine gP b2 ?_;refine gC (TE (g:=g) hS) λe he=>?_;refine gH ?_ ?_<;>intro h1
 rotate_left
 .refine go ?_;refine tT (c:=(130:Int)=0) (f:=aj (az ai) (.slice none 0 0) (jk g rs)) s6 ?_;exact gQ ⟨.slice none 0 0,130⟩ ⟨(λh=>by cases h),λh=>absurd (he.2 h.1) h1⟩
 have hg:=he.1 s6;have hgl:=hg.len;have uI:g.cells.Pairwise (·<·):=A0
 refine aO ?_ ?_<;>intro h2
 .refine go ?_;refine tT (c:=(130:Int)=0) (f:=aj (az ai) (.slice none 0 0) (jk g rs)) s6 ?_;exact gQ ⟨.slice none 0 0,130⟩ ⟨(λh=>by cases h),λh=>by exfalso;have:=h.2.len;omega⟩
 refine go ?_;refine lT (az ai) ?_;refine dV (λy:Nat×ah=>rs.length - y.1) (λy=>[(24,iV (y.1:Int)),(4,y.2)]) (λy=>[ap (az ai) y.2 (jk g (rs.take y.1))]) (λ_=>[]) (λy=>y.1<=rs.length/\∀ps∈rs.take y.1,NA g ps) (0,.slice none 0 0) ⟨bM _,λps h=>by cases h⟩ (hk:=s9) (body:=?_);rintro⟨k,v4⟩ ⟨hk,hall⟩;dsimp only at hk hall⊢;have hkl:(jk g (rs.take k)).length=k:=by unfold jk;rw[aR,fU];omega
 refine aO ?_ ?_<;>intro h3
 .refine gX (az ai) (xs:=rs) λ_ _ ps (vp:ah) hps=>?_;have hpm:=aT hps;have hpl:=hrs ps hpm;have htk:=fF hps;refine gF ai vp ps λa4 c4 e4=>?_;subst e4;refine go ?_;refine yD jK (λbm=>?_);refine go ?_;refine lT ai ?_;refine dV (λy:Nat×ah=>ps.length - y.1) (λy=>[(31,iV (y.1:Int)),(8,y.2)]) (λy=>[ap ai y.2 (jF g (ps.take y.1)),fV jK bm (CU (jF g (ps.take y.1)))]) (λ_=>[]) (λy=>y.1<=ps.length/\(∀p∈ps.take y.1,p∈g.cells)/\(jF g (ps.take y.1)).Nodup) (0,.slice none 0 0) ⟨bM _,(λp h=>by cases h),Ae⟩ (hk:=s9) (body:=?_);rintro⟨j,v8⟩ ⟨hj,hmem,hnd⟩;dsimp only at hj hmem hnd⊢;have hjl:(jF g (ps.take j)).length=j:=by unfold jF;rw[aR,fU];omega
  have hj2:j<=256:=by have:=Sn hmem hnd;rw[fU]at this;omega
  refine aO ?_ ?_<;>intro h4
  .refine go ?_;intro _ _ x hx;have htx:=fF hx;refine gC (abl (xs:=g.cells) (z:=x) s6 (uI.imp λh=>Int.le_of_lt h)) λy hy=>?_;have hym:=hy.mem uI;obtain⟨c,ok⟩:=y;dsimp only at hym⊢;cases ok with
   |false=>
    refine go ?_;refine tT (c:=(130:Int)=0) (f:=aj (az ai) (.slice none 0 0) (jk g rs)) s6 ?_;exact gQ ⟨.slice none 0 0,130⟩ ⟨(λh=>by cases h),λh=>by
     have:=hym.2 ((h.2.all ps hpm).mem x (aT hx));cases this⟩
   |true=>
    have hxm:=hym.1 rfl;have zA:g.cells[c]? =some x:=hy.2.2.2.1 rfl;have hpos:=Sk uI zA;have hr1:jF g (ps.take (j+1))=jF g (ps.take j)++[(c:Int)]:=by unfold jF;rw[htx,cB,l6,hpos]
    refine go ?_;refine Ex (bB:=jK) (b:=bm) (aA:=CU (jF g (ps.take j))) Db (c:Int) ?_;rw[aj6];refine aO ?_ ?_<;>intro h5
    .refine go ?_;refine tT (c:=(130:Int)=0) (f:=aj (az ai) (.slice none 0 0) (jk g rs)) s6 ?_;exact gQ ⟨.slice none 0 0,130⟩ ⟨(λh=>by cases h),λh=>by
      exfalso
      have h6:(jF g ps).Nodup:=(h.2.all ps hpm).nd;have h7:(jF g (ps.take (j+1))).Nodup:=by
       refine h6.sublist ?_;unfold jF;exact(List.take_sublist _ _).map _
      rw[hr1,jA]at h7;exact h7.2.2 _ h5 _ (bA.2 rfl) rfl⟩
    .refine go ?_;refine vJ (bB:=jK) (b:=bm) (v:=.bool true) (aA:=CU (jF g (ps.take j))) Db (c:Int) ?_;rw[<- Z0,<- hr1];refine go ?_;intro b53;refine go ?_;refine kY (xs:=jF g (ps.take j)) ai (c:Int) () s6 (next:=λad=>?_);rw[<- hr1];refine go ?_;refine aU (j+1,.slice ad ((jF g (ps.take j)).length+1) ((jF g (ps.take j)).length+1)) (by show ps.length - (j+1)<ps.length - j;omega) ⟨by show j+1<=_;omega,?_,?_⟩
     .show∀p∈ps.take (j+1),p∈g.cells;rw[htx];intro p hp;rcases fq.1 hp with hp|hp
      .exact hmem p hp
      .rw[bA.1 hp];exact hxm
     .show(jF g (ps.take (j+1))).Nodup;rw[hr1,jA];exact⟨hnd,s7,λa ha b hb e=>h5 (by rw[bA.1 hb]at e;rw[<- e];exact ha)⟩
  have jT:j=ps.length:=s6
  subst jT;rw[fu]at hmem hnd⊢;have hrl2:(jF g ps).length=ps.length:=by unfold jF;rw[aR]
  refine Da (E:=ai) (v:=v8) (xs:=jF g ps) λa8 e8=>?_;subst e8;refine aO ?_ ?_<;>intro h5
  .refine go ?_;refine tT (c:=(130:Int)=0) (f:=aj (az ai) (.slice none 0 0) (jk g rs)) s6 ?_;exact gQ ⟨.slice none 0 0,130⟩ ⟨(λh=>by cases h),λh=>by
    exfalso
    exact(h.2.all ps hpm).ne (j6.1 s6)⟩
  have hR:NA g ps:=⟨λe=>h5 (by rw[hrl2,e];rfl),hmem,hnd⟩
  have hrr:jk g (rs.take (k+1))=jk g (rs.take k)++[jF g ps]:=by unfold jk;rw[htk,cB,l6]
  refine gZ (jr (E:=ai) (v:=.slice a8 (jF g ps).length (jF g ps).length) (xs:=jF g ps)) ?_;refine go ?_;intro b61;refine go ?_;refine kY (xs:=jk g (rs.take k)) (az ai) (jF g ps) (.slice a8 (jF g ps).length (jF g ps).length) s6 (next:=λad=>?_);rw[<- hrr];refine go ?_;refine aU (k+1,.slice ad ((jk g (rs.take k)).length+1) ((jk g (rs.take k)).length+1)) (by show rs.length - (k+1)<rs.length - k;omega) ⟨by show k+1<=_;omega,?_⟩;show∀qs∈rs.take (k+1),NA g qs;rw[htk];intro qs hq;rcases fq.1 hq with hq|hq
  .exact hall qs hq
  .rw[bA.1 hq];exact hR
 have hke:k=rs.length:=s6
 subst hke;rw[fu]at hall⊢;refine gZ (jr (E:=az ai) (v:=v4) (xs:=jk g rs)) ?_;refine go ?_;refine vU (c:=(0:Int)=0) (f:=aj (az ai) v4 (jk g rs)) s7 ?_;exact gQ ⟨v4,0⟩ ⟨λ_=>⟨hg,s6,hall⟩,λ_=>rfl⟩
