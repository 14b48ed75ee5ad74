/- Part. -/
import Derived.Test.YtignbinlipkmfaaGreatDoorShelf
import Derived.Test.YtignbinlipkmfaaGreatDoorLibAG
set_option linter.all false
set_option maxRecDepth 10000
set_option maxHeartbeats 4000000
namespace Go.Proofs.YtignbinlipkmfaaGreatDoor
open Tryz (prog)
open Go.Ideal
noncomputable def QK:=oG prog 176
def YK:lu prog 176=some QK:=qk
def srt:Ps prog 176:=λblk off cap zs w h1 h2 h3=>Any.slices_Sort_int Tryz.lays189 blk off cap zs w h1 h2 h3
open Go.Ideal Kd
noncomputable def LP:=oG prog 173
def QL:lu prog 173=some LP:=qk
noncomputable def QM:=oG prog 96
def akA:lu prog 96=some QM:=qk
variable{x:Int}
def akB:eU prog 212 [iV x] [] (.bool false):=by
 refine gB 212 λB w0=>?_;refine bT ?_;rw[di (λh=>h rfl)];rfl
def akC:eU prog 238 [iV x] [] (.bool false):=by
 refine gB 238 λB w0=>?_;refine bT ?_;rw[di (λh=>h rfl)];rfl
def akD{y:Int}:eU prog 237 [iV x,iV y] [] (.bool (decide (x<y))):=by
 refine gB 237 λB w0=>?_;refine gC (akB (x:=x)) λ_ _=>?_;exact fH
def QN(xs:ae Int)(z:Int)(y:Nat×Bool):Prop:=y.1<=xs.length/\(∀(j:Nat) x,j<y.1->xs[j]? =some x->x<z)/\(∀(j:Nat) x,y.1<=j->xs[j]? =some x->z<=x)/\(y.2=true↔xs[y.1]? =some z)
variable{xs:ae Int}{z:Int}
def QN.mem{y:Nat×Bool}(h:QN xs z y)(hs:xs.Pairwise (·<·)):y.2=true↔z∈xs:=by
 obtain⟨h1,h2,h3,h4⟩:=h;rw[h4];refine⟨λh=>aV h,λh=>?_⟩;obtain⟨j,hj⟩:=ym.1 h;have hjl:=(aT.1 hj)
 rcases SL j y.1 with h5|h5|h5
 .have:=h2 j z h5 hj;omega
 .rw[<- h5];exact hj
 .have hyl:y.1<xs.length:=by have:=hjl.1;omega
  have hy:xs[y.1]? =some xs[y.1]:=bH hyl;have h6:=h3 y.1 _ (bz _) hy;have h7:=zR.1 hs y.1 j hyl hjl.1 h5;rw[hjl.2]at h7;omega
variable{v:ah}
def YL(hl:xs.length<4611686018427387904)(hs:xs.Pairwise (·<=·)):
 fC prog 174 [v,iV z] [aA ai v xs] (λy:Nat×Bool=>.tuple ⟨[iV (y.1:Int),.bool y.2]⟩) (QN xs z):=by
 refine gB 174 λB w0=>?_;refine gL (λy:Nat×Nat=>y.2 - y.1) (λy=>[(7,iV (y.1:Int)),(8,iV (y.2:Int))]) (λy=>y.1<=y.2/\y.2<=xs.length/\(∀(j:Nat) x,j<y.1->xs[j]? =some x->x<z)/\(∀(j:Nat) x,y.2<=j->xs[j]? =some x->z<=x)) (0,xs.length) ⟨bS _,bz _,λj x hj=>by omega,λj x hj hx=>by have:=(aT.1 hx).1;omega⟩ ?_;rintro⟨a,b⟩ ⟨hab,hb,hlo,hhi⟩;dsimp only at hab hb hlo hhi⊢;refine aP ?_ ?_<;>intro h1
 .have Gp:a<=(a+b)>>>1/\(a+b)>>>1<b:=by
   rw[Nf];omega
  generalize hm:(a+b)>>>1=m at Gp;refine go ?_;rw[show(a:Int)+(b:Int)=((a+b:Nat):Int)by omega];refine(bV rfl rfl (uM (k:=.u64) (m:=((a+b:Nat):Int)) (by kernel_rfl:prog.underlying 3=some (.int .i64)) qk rfl (KN p0))).h ?_;refine(bV rfl rfl (Pw (a:=a+b) (b:=1) rfl rfl p0)).h ?_;rw[hm];refine(bV rfl rfl (uM (k:=.i64) (m:=(m:Int)) (by kernel_rfl:prog.underlying 53=some (.int .u64)) qk rfl (wrapN p0))).h ?_;refine go ?_;intro _ _ x hx;refine gC (akD (x:=x) (y:=z)) λ_ _=>?_;refine go ?_;have hle:∀(i j:Nat) u v,i<=j->xs[i]? =some u->xs[j]? =some v->u<=v:=by
   intro i j u v hij hu hv;by_cases e:i=j
   .subst e;rw[hu]at hv;injection hv with hv;omega
   .exact zR.1 hs i j (aT.1 hu).1 (aT.1 hv).1 p0|>λh=>by
     rw[(aT.1 hu).2,(aT.1 hv).2]at h;exact h
  refine uH rfl ?_ ?_<;>intro h2
  .refine go ?_;refine aY (m+1,b) (by show b - (m+1)<b - a;omega) ⟨by show m+1<=b;omega,hb,λj u hj hu=>?_,hhi⟩;have:=hle j m u x (by show j<=m;have:j<m+1:=hj;omega) hu hx;omega
  .refine go ?_;refine aY (a,m) (by show m - a<b - a;omega) ⟨by show a<=m;omega,by show m<=_;omega,hlo,λj u hj hu=>?_⟩;have:=hle m j x u hj hx hu;omega
 have hba:b=a:=p0
 subst hba;refine gH ?_ ?_<;>intro h2
 .have hn:xs[b]? =none:=dY p0;refine go ?_;exact gQ (b,false) ⟨by show b<=_;omega,hlo,hhi,by show false=true↔xs[b]? =some z;rw[hn];simp⟩
 refine go ?_;intro _ _ x hx;refine go ?_;by_cases hxz:x=z
 .subst hxz;rw[fo rfl];refine go ?_;exact gQ (b,true) ⟨by show b<=_;omega,hlo,hhi,by show true=true↔xs[b]? =some x;simp[hx]⟩
 .rw[di hxz];refine go ?_;intro _ _ x2 hx2;refine gC (akC (x:=x2)) λ_ _=>?_;refine go ?_;exact gQ (b,false) ⟨by show b<=_;omega,hlo,hhi,by show false=true↔xs[b]? =some z;rw[hx];simp[hxz]⟩
def YM{aJ:ae (Int×ai.Y)}(hl:aJ.length<=4096):bA prog (.func 173) [v] [] [] [tC ai v aJ] (λv':ah=>v') (λv'=>[ar ai v' aJ]) (λ_=>[]) (λ_=>True):=by
 refine nZ LP QL λB w0=>?_;refine QF (v:=v) (aJ:=aJ) ai (λe c ev=>?_) (λe i o f c ev=>?_) (λhne i o f c ev=>?_)
 .subst e ev;refine go ?_;refine(bV rfl rfl (G6 (e:=3) qk rfl)).h ?_;refine go ?_;refine QG ai ?_;exact oa
 .subst e ev;refine go ?_;refine(bV rfl rfl (AU (e:=3) qk rfl)).h ?_;refine go ?_;intro b;refine go ?_;refine KH (b:=b) ?_;refine go ?_;refine wB (b:=b) (m:=0) (f:=0) ai (aJ:=[]) rfl (.inl rfl) ?_ (hk:=aC.here);exact i7
 .subst ev;refine go ?_;refine(bV rfl rfl (AU (e:=3) qk rfl)).h ?_;refine go ?_;intro b;refine go ?_;refine KI (b:=b) ai aJ hne p0 (λb'=>?_);refine go ?_;refine wB (b:=b') (m:=aJ.length) (f:=ai.n) ai (aJ:=aJ) rfl (.inr rfl) ?_ (hk:=aC.here);exact gQ (.slice (some ⟨b',0,some ai.n⟩) aJ.length aJ.length) trivial
abbrev Ib:ae ah:=[iV 0,iV 0,iV 0,.slice none 0 0,.slice none 0 0]
abbrev mI(g:bM)(vh vc:ah):ae ah:=[iV g.shape,iV g.w,iV g.h,vh,vc]
abbrev qV(g:bM)(vh vc:ah):ae aH:=[aA ai vh g.holes,aA ai vc g.cells]
structure QO where
 ok:Bool
 vh:Value
 vc:Value
def CQ(s w h:Int)(holes:ae Int):bM:=⟨s,w,h,holes,rZ w h holes⟩
abbrev mkV(s w h:Int)(holes:ae Int)(y:QO):ah:=.tuple ⟨[.agg ⟨cond y.ok (mI (CQ s w h holes) y.vh y.vc) Ib⟩,iV (cond y.ok 0 130)]⟩
abbrev xP(s w h:Int)(holes:ae Int)(y:QO):ae aH:=cond y.ok (qV (CQ s w h holes) y.vh y.vc) []
def zk(xs:ae Int):Int:=xs.getLast?.getD (-1)
def akE(xs:ae Int)(x:Int):zk (xs++[x])=x:=by simp[zk]
def akF(h:∀x∈xs,0<=x): -1<=zk xs:=by
 unfold zk;cases hx:xs.getLast? with
 |none=>simp
 |some x=>
  have:=h x (List.mem_of_getLast? hx);simp only[wT];omega
def akG(h:xs.Pairwise (·<·)){a:Int}(ha:a∈xs):a<=zk xs:=by
 unfold zk;cases hx:xs.getLast? with
 |none=>rw[List.getLast?_eq_none_iff]at hx;subst hx;cases ha
 |some x=>
  obtain⟨ys,rfl⟩:=List.getLast?_eq_some_iff.1 hx;simp only[wT];rcases fO.1 ha with h1|h1
  .have:=(SQ.1 h).2.2 a h1 x (bF.2 rfl);omega
  .rw[bF.1 h1];exact Int.le_refl _
def akH{k:Nat}(h:xs.Pairwise (·<·))(hx:xs[k]? =some x)(h0:0<=x):zk (xs.take k)<x:=by
 unfold zk;cases hl:(xs.take k).getLast? with
 |none=>simp only[Option.getD_none];omega
 |some y=>
  simp only[wT];have hy:=List.mem_of_getLast? hl;have hd:xs=xs.take k++x::xs.drop (k+1):=by
   conv=>lhs;rw[<- qz k xs]
   rw[pg (aT.1 hx).1,(aT.1 hx).2]
  rw[hd]at h;exact(SQ.1 h).2.2 y hy x (dP ..)
def QR{s w h:Int}{holes:ae Int}{vh:ah}(hw64:kV w)(arC:kV h)(hl:holes.length<4611686018427387904):
 bA prog (.func 96) [iV s,iV w,iV h,vh] [] [] [aA ai vh holes] (mkV s w h holes) (λ_=>[]) (xP s w h holes) (λy=>y.ok=true↔tL s w h holes):=by
 have bad:¬tL s w h holes->∀{B:ae Nat} {w0:Wd} {kl:ae OA} {F:ae aH} {l:qr} {n b:Nat} {bi:ae OA},lk l 8=ptr' b->lk l 9=iV 130->aC (pt b (.cells Ib)) kl bi->
  R (λh0=>xy QM (Go.Ideal.Left B w0 (mkV s w h holes) (λ_=>[]) (xP s w h holes) (λy=>y.ok=true↔tL s w h holes)) .ret (act n l [] none none) h0) B w0 kl F:=by
  intro hno B w0 kl F l n b bi h8 h9 hk;refine Vv (bi:=kl) ⟨false,.nilFunc,.nilFunc⟩ (vs:=[.agg ⟨Ib⟩,iV 130]) ?_ rfl ⟨(λe=>by cases e),λe=>absurd e hno⟩ .nil .nil (.inr rfl);show RS l kl [.qE 5 8,.tmp 9] _;exact .qE h8 hk rfl (.tmp h9 .nil)
 refine nZ QM akA λB w0=>?_;refine go ?_;intro b8;refine go ?_;by_cases hsh:s=1\/s=2
 rotate_left
 .rw[fo (show s≠1 from λe=>hsh (.inl e))];refine go ?_;rw[fo (show s≠2 from λe=>hsh (.inr e))];refine go ?_;exact bad (λh=>hsh h.sh) rfl rfl .here
 have hmk:∀sh,(sh=1\/sh=2)->(tL sh w h holes↔tL s w h holes):=λsh e=>⟨λq=>⟨hsh,q.wi,q.he,q.len,q.inc,q.mem⟩,λq=>⟨e,q.wi,q.he,q.len,q.inc,q.mem⟩⟩
 have h22:∀{B:ae Nat} {w0:Wd} {kl:ae OA} {F:ae aH} {K:KO} {ds:ae Tmp} {rest:ae bJ} {n:Nat} {l:qr} {D:ae Deferred},
  R (λh0=>aK prog ds rest (act n ((22,.bool false)::(21,.bool false)::l) D none none) h0 K) B w0 kl F->R (λh0=>aK prog ds rest (act n ((22,.bool false)::(21,.bool false)::l) D none none) h0 K) B w0 kl F:=λh=>h
 rcases hsh with rfl|rfl;all_goals
  refine gH ?_ ?_<;>intro a1
  rotate_left
  .exact nq
  refine gH ?_ ?_<;>intro a2
  rotate_left
  .exact nq
  refine gH ?_ ?_<;>intro a3
  rotate_left
  .exact nr
  refine gH ?_ ?_<;>intro a4
  rotate_left
  .exact nr
  have hwh:=CG (w:=w) (h:=h) ⟨p0,p0⟩ ⟨p0,p0⟩;refine aP ?_ ?_<;>intro a5
  .refine go ?_;exact bad (λq=>by have:=q.len;omega) rfl rfl .here
  refine gL (λk=>holes.length - k) (λk:Nat=>[(49,iV (k:Int)),(10,iV (zk (holes.take k)))]) (λk=>k<=holes.length/\(holes.take k).Pairwise (·<·)/\∀x∈holes.take k,0<=x/\x<w*h) 0 ⟨bS _,qe,qe⟩ ?_;rintro k ⟨hk,si,hmem⟩;refine aP ?_ ?_<;>intro a6
  .refine go ?_;intro _ _ x hx;refine go ?_;have hxm:=aV hx;refine gG ?_ ?_<;>intro a7
   rotate_left
   .refine go ?_;exact bad (λq=>by
     have h1:=q.inc;have h2:=q.mem x hxm;have:=akH h1 hx h2.1;omega) rfl rfl .here
   refine aP ?_ ?_<;>intro a8
   .refine go ?_;exact bad (λq=>by have:=q.mem x hxm;omega) rfl rfl .here
   refine go ?_;have htk:holes.take (k+1)=holes.take k++[x]:=by rw[qC,hx];rfl
   refine aY (k+1) p0 ⟨p0,?_,?_⟩ (hl:=⟨rfl,by rw[htk,akE];rfl,y4⟩)
   .rw[htk,SQ];refine⟨si,qe,λa ha b hb=>?_⟩;rw[bF.1 hb];have:=akG si ha;omega
   .rw[htk];intro z hz;rcases fO.1 hz with hz|hz
    .exact hmem z hz
    .rw[bF.1 hz];have:=akF (λy hy=>(hmem y hy).1);omega
  have hkl:k=holes.length:=p0
  subst hkl;rw[eH]at si hmem;have hok:∀s',(s'=1\/s'=2)->tL s' w h holes:=λs' hs'=>⟨hs',⟨p0,p0⟩,⟨p0,p0⟩,p0,si,hmem⟩
  obtain⟨m,hm⟩:=iQ (show 0<=w*h by omega);have akI:rZ w h holes=jJ m holes:=by
   unfold rZ;rw[hm];rfl
  refine go ?_;refine KF ai vh (λxh hxh=>?_);have hxl:xh.length=holes.length:=by rw[<- hxh,aS]
  refine jY (YM (aJ:=xh) p0) (next:=λv1 _=>?_);refine KG (E:=ai) (v:=v1) (aJ:=xh) ?_ (λw h p hp f hf=>by cases hf);rw[hxh];refine gF ai v1 holes λa1 c1 e1=>?_;subst e1;refine go ?_;rw[hm];refine mF ai ?_;refine dS (λy:Nat×aj Addr=>m - y.1) (λy=>[(75,iV (y.1:Int))]) (λy=>[pt b8 (.cells [iV _,iV w,iV h,.slice a1 holes.length c1,.slice y.2 (jJ y.1 holes).length (jJ y.1 holes).length]),ap ai (.slice y.2 (jJ y.1 holes).length (jJ y.1 holes).length) (jJ y.1 holes)]) (λ_=>[]) (λy=>y.1<=m) (0,none) (bS _) (hk:=qn) (body:=?_);rintro⟨k,ad⟩ hk;dsimp only at hk⊢;have hcl:=Lf k holes;refine aP ?_ ?_<;>intro a9
  .refine gC (YL (xs:=holes) (z:=(k:Int)) hl (si.imp (λh=>Int.le_of_lt h))) λy hy=>?_;have hmm:=hy.mem si;clear hy;obtain⟨n,b⟩:=y;dsimp only at hmm;refine go ?_;cases b with
   |true=>
    refine go ?_;have e1:jJ (k+1) holes=jJ k holes:=by rw[Xt,if_pos (hmm.1 rfl),iH]
    rw[<- e1];exact aY (k+1,ad) (by show m - (k+1)<m - k;omega) (by show k+1<=m;omega)
   |false=>
    have hnm:¬(k:Int)∈holes:=λh=>by have:=hmm.2 h;cases this
    have e1:jJ k holes++[(k:Int)]=jJ (k+1) holes:=by rw[Xt,if_neg hnm]
    have e2:(jJ k holes).length+1=(jJ (k+1) holes).length:=by rw[<- e1];simp
    refine go ?_;intro b89;refine go ?_;refine l7 ai (xs:=jJ k holes) (k:Int) () p0 λad'=>?_;rw[e1,e2];refine go ?_;exact aY (k+1,ad') (by show m - (k+1)<m - k;omega) (by show k+1<=m;omega)
  have hkm:k=m:=p0
  subst hkm;refine go ?_;refine qN jk (A:=ap ai (.slice ad (jJ k holes).length (jJ k holes).length) (jJ k holes)) (h:=?_);refine go ?_;refine gQ ⟨true,.slice a1 holes.length c1,.slice ad (jJ k holes).length (jJ k holes).length⟩ ⟨λ_=>hok _ (by first|exact .inl rfl|exact .inr rfl),λ_=>rfl⟩ (hF:=?_);show Sub [aA ai _ holes,aA ai _ (rZ w h holes)] _;rw[akI];exact .cons qe (.cons qe .nil)
end Go.Proofs.YtignbinlipkmfaaGreatDoor
namespace Go.Proofs.YtignbinlipkmfaaGreatDoor
open Tryz (prog)
open Go.Ideal Kd
structure xQ(g:bM):Prop where
 w:kV g.w
 h:kV g.h
 holes:g.holes.length<4611686018427387904
 cells:g.cells.length<4611686018427387904
variable{g:bM}{vh vc:ah}
def QS(hS:xQ g):
 fC prog 104 [.agg ⟨mI g vh vc⟩] (qV g vh vc) (λe:Int=>iV e) (λe=>e=0↔fT g):=by
 refine gB 104 λB w0=>?_;refine go ?_;intro b1;refine gC (QR (s:=g.shape) (w:=g.w) (h:=g.h) (holes:=g.holes) (vh:=vh) hS.w hS.h hS.holes) λy hy=>?_;obtain⟨ok,v1,v2⟩:=y;cases ok with
 |false=>
  have hno:¬tL g.shape g.w g.h g.holes:=λh=>by have:=hy.2 h;cases this
  dsimp only[mkV,xP,cond,List.nil_append];refine go ?_;intro b3;refine go ?_;exact gQ 130 ⟨(λh=>by cases h),λh=>absurd h.make hno⟩
 |true=>
  have hmk:=hy.1 rfl;dsimp only[mkV,xP,cond,qV,CQ,List.cons_append,List.nil_append];refine go ?_;intro b3;refine gC (uY (xs:=rZ g.w g.h g.holes) (ys:=g.cells) (by
   have:=Lf (g.w*g.h).toNat g.holes;have:=CG hmk.wi hmk.he;unfold rZ;omega)) λ_ _=>?_
  refine go ?_;refine sZ rfl (λh1=>?_) (λh1=>?_)
  .refine go ?_;exact gQ 130 ⟨(λh=>by cases h),λh=>absurd h.cells.symm h1⟩
  .refine go ?_;exact gQ 0 ⟨λ_=>⟨hmk,h1.symm⟩,λ_=>rfl⟩
abbrev akK(x:Int×(Int×Int)):ae ah:=[iV x.1,iD x.2]
def QT{b1:Nat}(hg:fT g):uL prog akK (.func 239) [] [ptr' b1] [dx b1 0 (mI g vh vc),aA ai vc g.cells] (λxs=>xs=bB g):=by
 intro S inv ok step s0 xG y1 y2 F' h0 hok hy;have hgl:=hg.len;have ol:=hg.make.wi;rw[fG,fG,dW];refine gB 239 λB w0=>?_;refine go ?_;refine dS (λy:Nat×S=>g.cells.length - y.1) (λy=>[(10,iV (y.1:Int))]) (λy=>inv y.2) (λ_=>[]) (λy=>y.1<=g.cells.length/\ok ((bB g).take y.1) y.2/\iG step y.2 ((bB g).drop y.1)=iG step s0 (bB g)) (0,s0) ⟨bS _,h0,rfl⟩ (body:=?_);rintro⟨k,s⟩ ⟨hk,hos,hrun⟩;dsimp only at hk hos hrun⊢;refine aP ?_ ?_<;>intro h1
 .refine go ?_;intro _ _ x hx;have hxb:=hg.cell x (aV hx);have hsp:=A7 hx;have hd:(bB g).drop k=((k:Int),jK g x)::(bB g).drop (k+1):=by
   rw[pg tI];congr 1;rw[bH tI]at hsp;exact Option.some.inj hsp
  have hX:(bB g).take k++((k:Int),jK g x)::(bB g).drop (k+1)=bB g:=by rw[<- hd,qz]
  refine go ?_;refine(bV rfl rfl (Kk (a:=x) (b:=g.w) rfl rfl p0)).h ?_;refine go ?_;have hq:0<=x.tdiv g.w/\x.tdiv g.w<=x:=by
   exact fW
  have hr:0<=x.tmod g.w/\x.tmod g.w<=x:=by
   exact cQ
  refine(bV rfl rfl (Kj (a:=x) (b:=g.w) rfl rfl p0 p0 p0)).h ?_;refine aP ?_ ?_<;>intro h2
  .have hso:jK g x=(x.tmod g.w - (x.tdiv g.w).tdiv 2,x.tdiv g.w):=by unfold jK;rw[if_pos h2]
   have hq2:0<=(x.tdiv g.w).tdiv 2/\(x.tdiv g.w).tdiv 2<=x.tdiv g.w:=by
    rw[wY hq.1];omega
   rw[hso]at hX hd;have sG:=hy _ s _ _ hos hX;refine go ?_;refine(bV rfl rfl (Kj (a:=x.tdiv g.w) (b:=2) rfl rfl p0 p0 p0)).h ?_;exact cE
  .have hso:jK g x=(x.tmod g.w,x.tdiv g.w):=by unfold jK;rw[if_neg h2]
   rw[hso]at hX hd;have sG:=hy _ s _ _ hos hX;exact cE
 have hkl:k=(bB g).length:=tI
 rw[hkl,List.drop_length]at hrun;refine go ?_;exact gQ (bB g) rfl (hk:=by rw[<- hrun];exact aM.all _)
end Go.Proofs.YtignbinlipkmfaaGreatDoor
namespace Go.Proofs.YtignbinlipkmfaaGreatDoor
open Tryz (prog)
open Go.Ideal Kd
def LQ:qH (lX prog rJ rM):=rT _ _ _ (λf q h v h' hm=>by cases hm)
def akL(h:IH)(K:BR):(nI (lX prog rJ rM) 1000).call ⟨.func 124,[.int .u64 0],[],none⟩ h K=K (.ok (iV 0)) none h:=qk
def akM:eU prog 124 [.int .u64 0] [] (iV 0):=λB w s=>by
 have h2:=akL w.h λr pm h'=> @decide (pm=none/\r=.ok (iV 0)/\h'=w.h) (Classical.propDecidable _);have h1:=oK LQ (h2.trans (@fo _ (Classical.propDecidable _) ⟨rfl,rfl,rfl⟩));refine .ji _ h1 λr pm h' hg=>?_;obtain⟨rfl,rfl,rfl⟩:= @jT _ (Classical.propDecidable _) hg;exact⟨rfl,w,(),rfl,s,rfl,trivial⟩
variable{a:aj Addr}{c:Nat}
def akN:eU prog 283 [.slice a 0 c,iV 0,iV 0] [] (.tuple ⟨[]⟩):=by
 refine gB 283 λB w0=>?_;refine go ?_;refine pO ?_;exact fH
def akO:eU prog 240 [.slice a 0 c,iV 0,iV 0,iV 0] [] (.tuple ⟨[]⟩):=by
 refine gB 240 λB w0=>?_;refine go ?_;refine pO ?_;refine gC (akN (a:=a) (c:=c)) λ_ _=>?_;exact fH
def akP:eU prog 176 [.slice a 0 c] [] (.tuple ⟨[]⟩):=by
 refine nZ QK YK λB w0=>?_;refine go ?_;refine(bV rfl rfl (uM (k:=.u64) (m:=0) (by kernel_rfl:prog.underlying 3=some (.int .i64)) qk rfl rL)).h ?_;refine jY akM (next:=λ_ _=>?_);refine gC (akO (a:=a) (c:=c)) λ_ _=>?_;exact fH
def akQ:∃fn body,prog.funcs[176]? =some fn/\fn.body=some body/\fn.name≠ "runtime.NumGoroutine" :=by
 obtain⟨fn,h1,h2⟩:=LQ.fn 176 QK YK;have h3:prog.funcs[176]? =some fn:=h1;have h4:(fn.name== "runtime.NumGoroutine")=false:=by
  have e:(prog.funcs[176]?).map (λf=>f.name== "runtime.NumGoroutine")=some false:=qk
  exact fg
 have h5:fn.body.isSome=true:=by
  have e:(prog.funcs[176]?).map (λf=>f.body.isSome)=some true:=qk
  exact fg
 exact fh
def LU{m:Nat}{zs:ae Int}(hm:m=zs.length)(hl:zs.length<4611686018427387904):
 bA prog (.func 176) [.slice a m m] [] [ap ai (.slice a m m) zs] [] (λ_:Unit=>.tuple ⟨[]⟩) (λ_=>[ap ai (.slice a m m) (bP zs)]) (λ_=>[]) (λ_=>True):=by
 subst hm;obtain⟨fn,body,h1,h2,h3⟩:=akQ;by_cases hz:zs=[]
 .subst hz;have e:bP []=[]:=by simp[bP]
  rw[e];intro B w s;obtain⟨S1,s1,back⟩:=s.KC (k1:=[]) (bi:=[ap ai (.slice a 0 0) []]) (F1:=[]) .nil .nil;refine .ji _ (akP (a:=a) (c:=0) S1 w s1) ?_;exact kx
 .exact ahi srt h1 h2 h3 (Dm.2 hz) hl
def YN:qf prog 195 iD:=ahq (e:=3) qk qk qk (λa b=>by kernel_rfl)
variable{g:bM}{vh vc:ah}
def QU:bA prog (.func 175) [.agg ⟨mI g vh vc⟩] [] [] (qV g vh vc) (λb:Nat=>.func (.func 239) #[] #[ptr' b]) (λ_=>[]) (λb=>[dx b 0 (mI g vh vc),aA ai vc g.cells]) (λ_=>True):=by
 refine gB 175 λB w0=>?_;refine go ?_;intro b1;refine go ?_;refine gP b1 ?_;exact gQ b1 trivial
def wJ(c:Prop)(f:aH):aH:=⟨λw=>c->f.p w,λa h e=>f.mono a (h e)⟩
variable{B:ae Nat}{w0:Wd}{kl:ae OA}{F:ae aH}{Q:IH->Prop}{f:aH}
def Bf{c:Prop}(hc:¬c)(h:R Q B w0 kl (wJ c f::F)):R Q B w0 kl F:=iN (wJ c f) (λw _ e=>absurd e hc) h
def xR{c:Prop}(hf:f∈F)(h:R Q B w0 kl (wJ c f::F)):R Q B w0 kl F:=iN (wJ c f) (λw hw _=>hw f hf) h
structure QV where
 v:Value
 e:Int
abbrev LV(y:QV):ah:=.tuple ⟨[y.v,iV y.e]⟩
def LW{S α:Type}(f:S->α->S):∀(xs:ae α) (s:S),jF (λs x=>(f s x,Out.normal)) s xs=(xs.foldl f s,.normal)
 |[],s=>rfl
 |x::xs,s=>by
  show jF (λs x=>(f s x,Out.normal)) (f s x) xs=_;rw[LW f xs];rfl
section
variable {P:Program} {B:ae Nat} {w0:Wd} {kl kl':ae OA} {F:ae aH} {Q:IH->Prop}
def akR{b:Nat}{cs cs':ae ah}(e:cs=cs')(h:R Q B w0 (pt b (.cells cs')::kl') F)(hk:aC (pt b (.cells cs)) kl kl':=by exact dK):R Q B w0 kl F:=by
 subst e;exact λw s=>h w (s.fu hk)
def Ic{α:Type}{E:Enc α}{v:ah}{xs:ae α}(h:∀a,v=.slice a xs.length xs.length->R Q B w0 kl F)(hk:aC (ap E v xs) kl kl':=by exact dK):R Q B w0 kl F:=λw s=>by
 obtain⟨S,⟨S1,S2,q,_⟩,_⟩:=(s.fu hk).own;obtain⟨a,e⟩:=O4 q;exact h a e w s
end
abbrev LX(b n:Nat):ah:=.slice (some ⟨b,0,some 0⟩) n n
def YO(hS:xQ g):
 bA prog (.func 97) [.agg ⟨mI g vh vc⟩] [] [] (qV g vh vc) LV (λ_=>[]) (λy=>[wJ (y.e=0) (aA (uP ai) y.v (eZ g))]) (λy=>y.e=0↔fT g):=by
 refine GV _ (uw 97) λB w0=>?_;refine go ?_;intro b1 b2;refine gC (QS (g:=g) hS) λe he=>?_;refine aP ?_ ?_<;>intro h1
 .refine go ?_;refine Bf (c:=(130:Int)=0) (f:=aA (uP ai) (.slice none 0 0) (eZ g)) p0 ?_;exact Cn ⟨.slice none 0 0,130⟩ (hv:=rfl) (hp:=⟨(λh=>by cases h),λh=>absurd (he.2 h) h1⟩)
 have hg:=he.1 p0;have hgl:=hg.len;have hsb:=Lh hg;have hsl:=qQ g;refine go ?_;intro b4 b5;refine go ?_;refine VI (bi:=[pt b4 (.cells EF),pt b2 (.cells [.slice none 0 0]),pt b1 (.cells (mI g vh vc))]) [] (λ_:Unit=>[]) (λ_=>[pt b5 (.cells [iV (dM g:Int)])]) (λ_=>[]) (λ_=>True) (hx:=?_) (hy:=?_)
 .refine uH rfl ?_ ?_<;>intro h2
  .refine go ?_;rw[show(4:Int)=(dM g:Int)by unfold dM;rw[if_pos h2];rfl];exact Kz () trivial
  .refine go ?_;rw[show(6:Int)=(dM g:Int)by unfold dM;rw[if_neg h2];rfl];exact Kz () trivial
 intro _ _;refine go ?_;refine wz iD (λbm=>?_);refine go ?_;intro b6;refine gC (QU (g:=g) (vh:=vh) (vc:=vc)) λbs _=>?_;refine go ?_;refine G5 (Z:=Nat) (λ(m:ae ((Int×Int)×ah)) (x:Int×(Int×Int))=>(upd x.2 (iV x.1) m,.normal)) (λm=>[fw iD bm m,pt b6 (.cells [.map (some bm)])]) (λvs m=>m=eO vs) [] _ (λx b8=>[pt b8 (.cells [iV x.2.1,iV x.2.2])]) rfl (λvs s x rest hs _ _=>by rw[hs,P7]) (QT (b1:=bs) (vh:=vh) (vc:=vc) hg) wg ?_ ?_ (λ_ _=>trivial)
 .intro vs s x rest b8 lo L B w0 hs hX;dsimp only[List.cons_append,List.nil_append];refine go ?_;refine tu YN x.2 (v:=iV x.1) ?_;refine go ?_;exact gj
 intro r1 xs hxs;subst hxs;rw[LW (λ(m:ae ((Int×Int)×ah)) (x:Int×(Int×Int))=>upd x.2 (iV x.1) m)];dsimp only[List.cons_append,List.nil_append];rw[show(bB g).foldl (λ(m:ae ((Int×Int)×ah)) (x:Int×(Int×Int))=>upd x.2 (iV x.1) m) []=eO (bB g)from rfl];refine gZ (Cv (b:=bm)) ?_;refine gP b6 ?_;refine go ?_;refine ww g.cells.length ⟨p0,p0,p0⟩ λbl=>?_;rw[show zeros [.slice none 0 0] g.cells.length=List.replicate g.cells.length (.slice none 0 0)from U7 _ _];refine ahA (l8 ai) (x0:=([]:ae Int)) (λw=>⟨.inl ⟨rfl,rfl,rfl⟩,λ_=>rfl⟩) (h:=?_);refine gC (QU (g:=g) (vh:=vh) (vc:=vc)) λbs2 _=>?_;refine go ?_;refine gP b4 ?_;refine gP b5 ?_;have hml:(dX.take (dM g)).length=dM g:=by rw[gq];show min (dM g) 6=_;have:=CJ g;omega
 refine iN (aA r9 (.slice (some ⟨b4,0,some 0⟩) (dM g) 6) (dX.take (dM g))) (λw h=>aiK (h (dx b4 0 EF) (dO _ (dP ..))) (CJ g)) ?_;refine G5 (Z:=Nat) (λ(xss:ae (ae Int)) (x:Int×(Int×Int))=>(xss.set x.1.toNat (mU g x),.normal)) (λxss=>[oP (l8 ai) bl xss,pt b2 (.cells [LX bl g.cells.length])]) (λvs xss=>xss=vs.map (mU g)++List.replicate (g.cells.length - vs.length) []) (List.replicate g.cells.length []) _ (λx b10=>[pt b10 (.cells [iV x.2.1,iV x.2.2])]) qe (λvs s x rest hs hX _=>by
  have h1:=Li hX;rw[hs,h1.1];have:=Xv (A:=vs.map (mU g)) (n:=g.cells.length) (by rw[aS];exact h1.2.1) (mU g x);rw[aS]at this;rw[ic,this,dQ,dL];rfl) (QT (b1:=bs2) (vh:=vh) (vc:=vc) hg) wg ?_ ?_ (λ_ _=>trivial)
 .intro vs xss x rest b10 lo L B w0 hs hX;dsimp only[List.cons_append,List.nil_append];obtain⟨hc,hvl,hxm⟩:=Li hX;have hbx:=hsb x hxm;obtain⟨c,s1,s2⟩:=x;dsimp only at hc hbx;subst hc;have hxk:xss[vs.length]? =some []:=by
   rw[hs,jm qe,aS,mM,Na,if_pos p0]
  have hxl:xss.length=g.cells.length:=by rw[hs];simp;omega
  refine go ?_;refine(bV rfl rfl (aiN (m:=dM g) rfl rfl (CJ g))).h ?_;refine go ?_;refine Cy (A:=oP (l8 ai) bl xss) (A':=oP (l8 ai) bl (xss.set vs.length (fU (eO (bB g)) (s1,s2) ((dX.take (dM g)).take 0)))) (congrArg (oP (l8 ai) bl) (by
   apply iK;intro i;rw[ow];by_cases hi:vs.length=i
   .subst hi;rw[if_pos rfl,if_pos p0,hxk];rfl
   .rw[if_neg hi])) ?_
  refine dS (λj=>dM g - j) (λj:Nat=>[(47,iV (j:Int))]) (λj=>[oP (l8 ai) bl (xss.set vs.length (fU (eO (bB g)) (s1,s2) ((dX.take (dM g)).take j)))]) (λ_=>[]) (λj=>j<=dM g) 0 (bS _) (body:=?_);intro j hj;refine aP ?_ ?_<;>intro h2
  .refine go ?_;obtain⟨dd,hd⟩:∃dd,(dX.take (dM g))[j]? =some dd:=⟨_,bH p0⟩
   have hdb:=aiL dd (Bt (aV hd));have hdv:jh (jU EF (j*2)) 2=some [iV dd.1,iV dd.2]:=aiM (j:=j) (d:=dd) (by rw[qy]at hd;split at hd;exact hd;cases hd)
   have hnr:=aiJ (eO (bB g)) (s1,s2) ((dX.take (dM g)).take j) dd;rw[<- gz hd]at hnr;have hnl:=Lg (eO (bB g)) (s1,s2) ((dX.take (dM g)).take j);have hjm:=CJ g;rw[gq]at hnl;obtain⟨d1,d2⟩:=dd;dsimp only at hdb hdv hnr;refine(Vn (o:=0) (j:=j*2) (cs:=EF) rfl rfl rfl (dO _ (dO _ (dP ..))) hdv).h ?_;refine go ?_;intro b12;refine go ?_;refine(bV rfl rfl (Ee (a:=s1) (b:=d1) rfl rfl p0 p0)).h ?_;refine go ?_;refine(bV rfl rfl (Ee (a:=s2) (b:=d2) rfl rfl p0 p0)).h ?_;refine go ?_;refine Yr YN (s1+d1,s2+d2) (λv hv hm=>?_) (λhm=>?_)
   .obtain⟨c,rfl,hc⟩:=Xu _ _ hv;rw[hv]at hnr;refine go ?_;refine WH (l8 ai) (b:=bl) (xss:=xss.set vs.length (fU (eO (bB g)) (s1,s2) ((dX.take (dM g)).take j))) (k:=vs.length) (xs:=fU (eO (bB g)) (s1,s2) ((dX.take (dM g)).take j)) BE (h:=λws v Ie hv2=>?_);rw[jD]at Ie;refine WJ ai v (fU (eO (bB g)) (s1,s2) ((dX.take (dM g)).take j)) (λhz=>?_);refine oN (o:=0+vs.length*1) (cs:=ws) v (by rw[eB,nQ];exact hv2) ?_;refine go ?_;intro b43;refine go ?_;refine Ww (xs:=fU (eO (bB g)) (s1,s2) ((dX.take (dM g)).take j)) ai c () p0 (next:=λad=>?_);rw[show fU (eO (bB g)) (s1,s2) ((dX.take (dM g)).take j)++[c]=fU (eO (bB g)) (s1,s2) ((dX.take (dM g)).take (j+1))from hnr.symm];refine go ?_;refine jG (o:=0+vs.length*1) (cs:=ws) (v:=.slice ad ((fU (eO (bB g)) (s1,s2) ((dX.take (dM g)).take j)).length+1) ((fU (eO (bB g)) (s1,s2) ((dX.take (dM g)).take j)).length+1)) (cs':=ws.set vs.length (.slice ad ((fU (eO (bB g)) (s1,s2) ((dX.take (dM g)).take j)).length+1) ((fU (eO (bB g)) (s1,s2) ((dX.take (dM g)).take j)).length+1))) (by rw[eB,nQ]) p0 ?_;refine WK ai (.slice ad ((fU (eO (bB g)) (s1,s2) ((dX.take (dM g)).take j)).length+1) ((fU (eO (bB g)) (s1,s2) ((dX.take (dM g)).take j)).length+1)) (fU (eO (bB g)) (s1,s2) ((dX.take (dM g)).take (j+1))) (λe=>by rw[hnr]at e;exact absurd e (by show¬(_++[c]=[]);simp)) ?_;refine WI (l8 ai) (b:=bl) (xss:=xss.set vs.length (fU (eO (bB g)) (s1,s2) ((dX.take (dM g)).take j))) (vs:=ws) (k:=vs.length) (xs:=fU (eO (bB g)) (s1,s2) ((dX.take (dM g)).take (j+1))) (by rw[jD];exact Ie) tU (h:=?_);rw[List.set_set];exact cR
   .rw[tK hm]at hnr;refine go ?_;refine Cy (A:=oP (l8 ai) bl (xss.set vs.length (fU (eO (bB g)) (s1,s2) ((dX.take (dM g)).take j)))) (A':=oP (l8 ai) bl (xss.set vs.length (fU (eO (bB g)) (s1,s2) ((dX.take (dM g)).take (j+1))))) (congrArg (oP (l8 ai) bl) ((by rw[hnr];exact congrArg (xss.set vs.length) (iH _).symm))) ?_;exact aY (j+1) p0 p0
  have hjl:j=dM g:=p0
  subst hjl;refine Cy (A:=oP (l8 ai) bl (xss.set vs.length (fU (eO (bB g)) (s1,s2) ((dX.take (dM g)).take (dM g))))) (A':=oP (l8 ai) bl (xss.set vs.length (fU (eO (bB g)) (s1,s2) (dX.take (dM g))))) (congrArg (oP (l8 ai) bl) ((congrArg (λz=>xss.set vs.length (fU (eO (bB g)) (s1,s2) z)) (zV (Nat.le_of_eq hml))))) ?_;refine go ?_;refine WH (l8 ai) (b:=bl) (xss:=xss.set vs.length (fU (eO (bB g)) (s1,s2) (dX.take (dM g)))) (k:=vs.length) (xs:=fU (eO (bB g)) (s1,s2) (dX.take (dM g))) BE (h:=λws v Ie hv2=>?_);rw[jD]at Ie;refine WJ ai v (fU (eO (bB g)) (s1,s2) (dX.take (dM g))) (λhz=>?_);refine oN (o:=0+vs.length*1) (cs:=ws) v (by rw[eB,nQ];exact hv2) ?_;have hn6:=Lg (eO (bB g)) (s1,s2) (dX.take (dM g));rw[hml]at hn6;have hjm:=CJ g;refine Ic (E:=ai) (v:=v) (xs:=fU (eO (bB g)) (s1,s2) (dX.take (dM g))) λa hv=>?_;subst hv;refine jY (LU (a:=a) (zs:=fU (eO (bB g)) (s1,s2) (dX.take (dM g))) rfl p0) (next:=λ_ _=>?_);refine akR (b:=bl) (cs:=ws) (cs':=ws.set vs.length (.slice a (fU (eO (bB g)) (s1,s2) (dX.take (dM g))).length (fU (eO (bB g)) (s1,s2) (dX.take (dM g))).length)) (aiO hv2).symm ?_;refine WK ai (.slice a (fU (eO (bB g)) (s1,s2) (dX.take (dM g))).length (fU (eO (bB g)) (s1,s2) (dX.take (dM g))).length) (bP (fU (eO (bB g)) (s1,s2) (dX.take (dM g)))) (λe=>hz (mo.1 (by rw[<- AO,e];rfl))) ?_;refine WI (l8 ai) (b:=bl) (xss:=xss.set vs.length (fU (eO (bB g)) (s1,s2) (dX.take (dM g)))) (vs:=ws) (k:=vs.length) (xs:=bP (fU (eO (bB g)) (s1,s2) (dX.take (dM g)))) (by rw[jD];exact Ie) tU (h:=?_);refine Cy (A:=oP (l8 ai) bl ((xss.set vs.length (fU (eO (bB g)) (s1,s2) (dX.take (dM g)))).set vs.length (bP (fU (eO (bB g)) (s1,s2) (dX.take (dM g)))))) (A':=oP (l8 ai) bl (xss.set ((vs.length:Int)).toNat (mU g ((vs.length:Int),s1,s2)))) (congrArg (oP (l8 ai) bl) ((by rw[List.set_set,ic];rfl))) ?_;refine go ?_;exact AB () rfl trivial trivial
 intro r2 xs2 akU;subst akU;rw[LW (λ(xss:ae (ae Int)) (x:Int×(Int×Int))=>xss.set x.1.toNat (mU g x))];dsimp only[List.cons_append,List.nil_append];rw[show(bB g).foldl (λ(xss:ae (ae Int)) (x:Int×(Int×Int))=>xss.set x.1.toNat (mU g x)) (List.replicate g.cells.length [])=eZ g from aiP g];refine gZ (ahB (A:=l8 ai) (E:=uP ai) (b:=bl) (xss:=eZ g) (c:=(eZ g).length) (λv=>v) rfl (λ_ _=>rfl) (λv xs=>ahC)) ?_;rw[A8];refine go ?_;refine xR (c:=(0:Int)=0) (f:=aA (uP ai) (.slice (some ⟨bl,0,some 0⟩) g.cells.length g.cells.length) (eZ g)) qe ?_;exact Cn ⟨.slice (some ⟨bl,0,some 0⟩) g.cells.length g.cells.length,0⟩ (hv:=rfl) (hp:=⟨λ_=>hg,λ_=>rfl⟩)
end Go.Proofs.YtignbinlipkmfaaGreatDoor
namespace Go.Proofs.YtignbinlipkmfaaGreatDoor
open Tryz (prog)
open Go.Ideal Kd
noncomputable def YP:=oG prog 231
def akV:lu prog 231=some YP:=qk
abbrev jN(n:Int):ah:=iV n
def Bg:qf prog 3 jN:=ag9 qk
variable{bm:Nat}{ay:ae (Int×ah)}
def akW:bA prog (.func 241) [.map (some bm)] [] [] [uK jN bm ay] (λb:Nat=>.func (.func 291) #[] #[ptr' b]) (λ_=>[]) (λb=>[dx b 0 [.map (some bm)],uK jN bm ay]) (λ_=>True):=by
 refine gB 241 λB w0=>?_;refine go ?_;intro b1;refine go ?_;refine gP b1 ?_;exact gQ b1 trivial
def akX{b:Nat}:uL prog (λx:Int=>[jN x]) (.func 291) [] [ptr' b] [dx b 0 [.map (some bm)],uK jN bm ay] (λxs=>xs.Perm (ay.map (·.1))):=by
 intro S inv ok step s0 xG y1 y2 F' h0 hok hy;rw[fG,fG,dW];refine gB 291 λB w0=>?_;refine go ?_;refine V5 (b:=bm) (ay:=ay) (aW:=jN) (next:=λr=>?_);refine go ?_;refine dS (λy:ae (Int×ah)×S=>ay.length - y.1.length) (λy=>[]) (λy=>Cx jN r bm ay y.1::inv y.2) (λ_=>[]) (λy=>ok (y.1.map (·.1)) y.2/\(∃rest,(y.1++rest).Perm ay)/\∀rest,iG step s0 (y.1.map (·.1)++rest)=iG step y.2 rest) ([],s0) ⟨h0,⟨ay,.refl _⟩,λ_=>rfl⟩ (body:=?_);rintro⟨fI,s⟩ ⟨hos,_,hrun⟩;dsimp only at hos hrun⊢;refine go ?_;refine V6 (b:=bm) (ay:=ay) (fI:=fI) (aW:=jN) (more:=λp rem hp=>?_) (done:=λhp=>?_) aiQ
 .have hX:(fI.map (·.1)++p.1::rem.map (·.1)).Perm (ay.map (·.1)):=by
   have:=hp.map (·.1);rw[dQ,fK]at this;exact this
  have hlen:=hp.length_eq;rw[dL,lU]at hlen;have sG:=hy _ s _ _ hos hX;refine go ?_;refine V7 (aW:=jN) (ay:=ay) (fI:=fI) (p:=p) ?_;exact cC
 .exact fS
structure QW where
 v:Value
 xs:List Int
variable{fn:Fn}{first captured:ae ah}{F1:ae aH}{X:ae Int->Prop}
def akY(hit:uL prog (λx:Int=>[jN x]) fn first captured F1 X)(hl:∀xs,X xs->xs.length<=1000000):
 bA prog (.func 312) [.slice none 0 0,.func fn ⟨first⟩ ⟨captured⟩] [] [] F1 (λy:QW=>y.v) (λy=>[ap ai y.v y.xs]) (λ_=>[]) (λy=>X y.xs):=by
 refine GV Yh ajW λB w0=>?_;refine go ?_;intro b2;refine mF ai ?_;refine yY (λv:ah=>[pt b2 (.cells [v]),ap ai v ([]:ae Int)]) (.slice none 0 0) (h:=?_);refine G5 (Z:=Nat) (λ(ys:ae Int) (x:Int)=>(ys++[x],Out.normal)) (λys=>[aj2 ai b2 ys]) (λvs ys=>ys=vs) [] _ (λ_ _=>[]) rfl (λvs s x rest hs hX _=>by rw[hs]) hit zj ?_ ?_ (λ_ _=>trivial)
 .intro vs s x rest z lo L B w0 hs hx;subst hs;dsimp only[List.cons_append,List.nil_append];have hlen:s.length<=1000000:=by have:=hl _ hx;rw[dL,lU]at this;omega
  refine AA (h:=λv=>?_);refine go ?_;intro b10;refine l7 (xs:=s) ai x () p0 (next:=λad=>?_);refine go ?_;refine yY (λv:ah=>[pt b2 (.cells [v]),ap ai v (s++[x])]) _ (h:=?_);exact gj
 .intro r xs hX;have hrun:∀(ys zs:ae Int),jF (λ(ys:ae Int) (x:Int)=>(ys++[x],Out.normal)) ys zs=(ys++zs,.normal):=by
   exact ir
  rw[hrun,dW];dsimp only[List.cons_append,List.nil_append];refine AA (h:=λv=>?_);refine go ?_;exact Cn ⟨v,xs⟩ (hv:=rfl) (hp:=hX)
def akZ(hit:uL prog (λx:Int=>[jN x]) fn first captured F1 X)(hl:∀xs,X xs->xs.length<=1000000):
 bA prog (.func 280) [.func fn ⟨first⟩ ⟨captured⟩] [] [] F1 (λy:QW=>y.v) (λy=>[ap ai y.v y.xs]) (λ_=>[]) (λy=>X y.xs):=by
 refine nZ Yi ajX λB w0=>?_;refine gC (akY hit hl) λy hy=>?_;dsimp only[List.cons_append,List.nil_append];refine go ?_;exact gQ y hy
def YQ(hit:uL prog (λx:Int=>[jN x]) fn first captured F1 X)(hl:∀xs,X xs->xs.length<=1000000):
 bA prog (.func 231) [.func fn ⟨first⟩ ⟨captured⟩] [] [] F1 (λy:QW=>y.v) (λy=>[ap ai y.v (bP y.xs)]) (λ_=>[]) (λy=>X y.xs):=by
 refine nZ YP akV λB w0=>?_;refine gC (akZ hit hl) λy hy=>?_;obtain⟨v,xs⟩:=y;dsimp only[List.cons_append,List.nil_append]at hy⊢;have hlen:=hl _ hy;refine Ic (E:=ai) (v:=v) (xs:=xs) λa hv=>?_;subst hv;refine gC (LU (a:=a) (zs:=xs) rfl p0) λ_ _=>?_;refine go ?_;exact gQ ⟨.slice a xs.length xs.length,xs⟩ hy
def Ig{g:bM}{vh vc:ah}{kf:Int×Int->Int×Bool}(hg:fT g)
 (hk:∀p∈bB g,bA prog fn (first++[iD p.2]) captured [] F1 (λ_:Unit=>.tuple ⟨[iV (kf p.2).1,.bool (kf p.2).2]⟩) (λ_=>[]) (λ_=>[]) (λ_=>True)):
 bA prog (.func 177) [.agg ⟨mI g vh vc⟩,.func fn ⟨first⟩ ⟨captured⟩] [] [] (aA ai vh g.holes::aA ai vc g.cells::F1) (λv:ah=>v) (λv=>[ap (az ai) v (j6 g kf)]) (λ_=>[]) (λ_=>True):=by
 have hgl:=hg.len;have hsl:=qQ g;refine GV _ (uw 177) λB w0=>?_;refine go ?_;intro b2 b3;refine go ?_;refine wz jN (λbm=>?_);refine go ?_;intro b5;refine ahu ai (b:=bm) (aW:=jN) ?_;refine gC (QU (g:=g) (vh:=vh) (vc:=vc)) λbs _=>?_;refine go ?_;refine G5 (Z:=Nat) (λ(m:ae (Int×ae Int)) (x:Int×(Int×Int))=>(xJ kf m x,.normal)) (λm=>[Hf jN ai bm m,pt b5 (.cells [.map (some bm)]),pt b3 (.cells [.func fn ⟨first⟩ ⟨captured⟩])]) (λvs m=>m=jA kf vs) [] _ (λx b8=>[pt b8 (.cells [iV x.2.1,iV x.2.2])]) rfl (λvs s x rest hs _ _=>by rw[hs,Ht]) (QT (b1:=bs) (vh:=vh) (vc:=vc) hg) wg ?_ ?_ (λ_ _=>trivial)
 .intro vs s x rest b8 lo L B w0 hs hX;dsimp only[List.cons_append,List.nil_append];obtain⟨hc,hvl,hxm⟩:=Li hX;have hkx:=hk x hxm;have hin:=P8 kf vs.length vs rfl;rw[<- hs]at hin;have hst:xJ kf s x=cond (kf x.2).2 (upd (kf x.2).1 ((bZ (kf x.2).1 s).getD []++[x.1]) s) s:=rfl;rw[hst];obtain⟨c,s1,s2⟩:=x;dsimp only at hc hkx hst⊢;subst hc;rcases hq:kf (s1,s2)with⟨kn,kb⟩
  rw[hq]at hkx;dsimp only at hkx⊢;refine gC hkx λ_ _=>?_;cases kb with
  |false=>
   dsimp only[cond];refine go ?_;exact gj
  |true=>
   dsimp only[cond];have hln:=hin.2 kn;refine go ?_;refine ahv (aW:=jN) (E:=ai) (b:=bm) (m:=s) kn (h:=λay v hkeys hv=>?_);refine Cw (b:=bm) (ay:=ay) Bg kn ?_;rw[hv];refine go ?_;intro b30;refine go ?_;refine Ww (xs:=(bZ kn s).getD []) ai (vs.length:Int) () p0 (next:=λad=>?_);refine go ?_;refine tu (b:=bm) (v:=.slice ad (((bZ kn s).getD []).length+1) (((bZ kn s).getD []).length+1)) (ay:=ay) Bg kn ?_;refine ahw (E:=ai) (v:=.slice ad (((bZ kn s).getD []).length+1) (((bZ kn s).getD []).length+1)) (xs:=(bZ kn s).getD []++[(vs.length:Int)]) kn hkeys ?_;refine go ?_;exact gj
 .intro r xs hX;subst hX;rw[LW (xJ kf)];dsimp only[List.cons_append,List.nil_append];rw[show(bB g).foldl (xJ kf) []=jA kf (bB g)from rfl];have hin:=P8 kf _ (bB g) rfl;rw[hsl]at hin;have hL:j6 g kf=(bP ((jA kf (bB g)).map (·.1))).map λn=>(bZ n (jA kf (bB g))).getD []:=rfl;generalize hm:jA kf (bB g)=m at hin hL⊢;refine ahx (aW:=jN) (E:=ai) (b:=bm) (m:=m) (λay hkeys=>?_);have hkl:ay.length=m.length:=by have:=congrArg List.length hkeys;simpa using this
  refine gZ (Cv (aW:=jN) (b:=bm) (ay:=ay)) ?_;refine gZ (ahy (E:=ai) (ay:=ay) (m:=m) hkeys) ?_;refine gP b5 ?_;refine gC (akW (bm:=bm) (ay:=ay)) λbk _=>?_;refine gC (YQ (akX (b:=bk) (bm:=bm) (ay:=ay)) (λxs h=>by have:=h.length_eq;rw[aS]at this;omega)) λy hy=>?_;obtain⟨vk,ks⟩:=y;dsimp only[List.cons_append,List.nil_append]at hy⊢;have hks:bP ks=bP (m.map (·.1)):=aiI (by rw[<- hkeys];exact hy);rw[hks];have hkn:(bP (m.map (·.1))).length=m.length:=by rw[AO,aS]
  have hmem:∀n∈bP (m.map (·.1)),n∈m.map (·.1):=λn h=>EG.1 h;generalize hK:bP (m.map (·.1))=ns at hkn hL hmem⊢;refine gZ (jk (E:=ai) (v:=vk) (xs:=ns)) ?_;refine gF ai vk ns λa c e=>?_;subst e;refine go ?_;refine mF (az ai) ?_;refine dS (λy:Nat×ah=>ns.length - y.1) (λy=>[(36,iV (y.1:Int)),(4,y.2)]) (λy=>[ap (az ai) y.2 ((ns.take y.1).map λn=>(bZ n m).getD [])]) (λ_=>[]) (λy=>y.1<=ns.length) (0,.slice none 0 0) (bS _) (hk:=qn) (body:=?_);rintro⟨k,v4⟩ hk2;dsimp only at hk2⊢;refine aP ?_ ?_<;>intro h1
  .refine go ?_;intro _ _ n hn;obtain⟨v,hv⟩:=Hr (a:=n) (l:=ay) (by rw[hkeys];exact hmem n (aV hn));obtain⟨xs,hxs⟩:=Hr (a:=n) (l:=m) (hmem n (aV hn));have hlv:jd false (.slice none 0 0) n ay=v:=by unfold jd;rw[hv];rfl
   have htk:(ns.take (k+1)).map (λn=>(bZ n m).getD [])=(ns.take k).map (λn=>(bZ n m).getD [])++[xs]:=by
    rw[gz hn,dQ,yo,hxs];rfl
   have hxl:((ns.take k).map (λn=>(bZ n m).getD [])).length=k:=tW
   refine iN (aA ai v xs) (λw hw=>hw (Wz ai ay m) qe n v xs hv hxs) ?_;refine gF ai v xs λa2 c2 e2=>?_;subst e2;refine go ?_;refine Pp (aW:=jN) (b:=bm) (ay:=ay) Bg n ?_;rw[hlv];refine go ?_;intro b44;refine go ?_;refine l7 (xs:=(ns.take k).map λn=>(bZ n m).getD []) (az ai) xs (.slice a2 xs.length c2) (by rw[hxl];omega) (next:=λad=>?_);rw[<- htk];refine go ?_;exact aY (k+1,.slice ad (((ns.take k).map λn=>(bZ n m).getD []).length+1) (((ns.take k).map λn=>(bZ n m).getD []).length+1)) (by show ns.length - (k+1)<ns.length - k;omega) rN
  have hke:k=ns.length:=p0
  subst hke;rw[eH,<- hL];refine go ?_;exact Cn v4 (hv:=rfl) (hp:=trivial)
end Go.Proofs.YtignbinlipkmfaaGreatDoor
namespace Go.Proofs.YtignbinlipkmfaaGreatDoor
open Tryz (prog)
open Go.Ideal Kd
abbrev Ih(fn:Fn)(first captured:ae ah)(F1:ae aH)(g:bM)(kf:Int×Int->Int×Bool):Prop:=
 ∀p∈bB g,bA prog fn (first++[iD p.2]) captured [] F1 (λ_:Unit=>.tuple ⟨[iV (kf p.2).1,.bool (kf p.2).2]⟩) (λ_=>[]) (λ_=>[]) (λ_=>True)
variable{g:bM}
def ak1:Ih (.func 178) [] [] [] g (λs=>(s.2,true)):=λp hp=>by
 refine gB 178 λB w0=>?_;refine go ?_;intro b1;exact fH
def ak2:Ih (.func 179) [] [] [] g (λs=>(s.1,true)):=λp hp=>by
 refine gB 179 λB w0=>?_;refine go ?_;intro b1;exact fH
def ak3(hg:fT g):Ih (.func 242) [] [] [] g (λs=>(s.1+s.2,true)):=λp hp=>by
 have hb:=Lh hg p hp;obtain⟨c,s1,s2⟩:=p;dsimp only at hb⊢;refine gB 242 λB w0=>?_;refine go ?_;intro b1;exact fH
def ak4(hg:fT g):Ih (.func 243) [] [] [] g (λs=>(0,decide (s.1=s.2))):=λp hp=>by
 have hb:=Lh hg p hp;refine gB 243 λB w0=>?_;refine go ?_;intro b1;exact fH
variable{vh vc:ah}
def ak5{b:Nat}(hg:fT g):Ih (.func 244) [] [ptr' b] [dx b 0 (mI g vh vc)] g (λs=>(0,decide (s.1+s.2=g.w - 1))):=λp hp=>by
 have hb:=Lh hg p hp;obtain⟨c,s1,s2⟩:=p;dsimp only at hb⊢;have hw:=hg.make.wi;refine gB 244 λB w0=>?_;refine go ?_;intro b1;exact fH
def ak6(hg:fT g):
 bA prog (.func 180) [.agg ⟨mI g vh vc⟩] [] [] (qV g vh vc) (λv:ah=>v) (λv=>[ap (az ai) v (tN g)]) (λ_=>[]) (λ_=>True):=by
 refine gB 180 λB w0=>?_;refine go ?_;intro b1;refine gP b1 ?_;refine aP ?_ ?_<;>intro h1
 .refine gC (Ig (kf:=λs=>(s.1+s.2,true)) (vh:=vh) (vc:=vc) hg (ak3 hg)) λv _=>?_;refine go ?_;exact gQ v trivial (hk:=by unfold tN;rw[if_pos h1];exact aM.all _)
 refine aP ?_ ?_<;>intro h2
 .refine go ?_;refine mF (az ai) ?_;exact gQ (.slice none 0 0) trivial (hk:=by unfold tN;rw[if_neg h1,if_neg h2];exact aM.all _)
 have h2:g.w=g.h:=lV.1 h2;refine gC (Ig (kf:=λs=>(0,decide (s.1=s.2))) (vh:=vh) (vc:=vc) hg (ak4 hg)) λva _=>?_;refine gC (Ig (kf:=λs=>(0,decide (s.1+s.2=g.w - 1))) (vh:=vh) (vc:=vc) hg (ak5 (vh:=vh) (vc:=vc) (b:=b1) hg)) λvb _=>?_;have hA:=Lj hg (λs=>(0,decide (s.1=s.2)));have hB:=Lj hg (λs=>(0,decide (s.1+s.2=g.w - 1)));have hD:tN g=mV (j6 g (λs=>(0,decide (s.1=s.2)))) (j6 g (λs=>(0,decide (s.1+s.2=g.w - 1)))):=by unfold tN;rw[if_neg h1,if_pos h2]
 generalize j6 g (λs=>(0,decide (s.1=s.2)))=la at hA hD⊢;generalize j6 g (λs=>(0,decide (s.1+s.2=g.w - 1)))=lb at hB hD⊢;have hF:=P9 hA.2 hB.2;refine gZ (jk (E:=az ai) (v:=vb) (xs:=lb)) ?_;refine gF (az ai) vb lb λa c e=>?_;subst e;refine go ?_;refine dS (λy:Nat×ah=>lb.length - y.1) (λy=>[(22,iV (y.1:Int)),(3,y.2)]) (λy=>[ap (az ai) y.2 (mV la (lb.take y.1))]) (λ_=>[]) (λy=>y.1<=lb.length) (0,va) (bS _) (hk:=qn) (body:=?_);rintro⟨k,v3⟩ hk2;dsimp only at hk2⊢;have QX:=hF k;refine aP ?_ ?_<;>intro h3
 .refine gX (az ai) (xs:=lb) λ_ _ ln (vl:ah) hl=>?_;have hs:=Xx (a:=la) hl;have hll:=hB.2 ln (aV hl);generalize mV la (lb.take k)=acc at QX hs⊢;refine Ic (E:=az ai) (v:=v3) (xs:=acc) λa3 e3=>?_;subst e3;refine gF ai vl ln λa4 c4 e4=>?_;subst e4;cases acc with
  |nil=>
   have hs2:mV la (lb.take (k+1))=[]++[ln]:=hs;refine go ?_;intro b39;refine go ?_;refine l7 (xs:=([]:ae (ae Int))) (az ai) ln (.slice a4 ln.length c4) qe (next:=λad=>?_);rw[<- hs2];refine go ?_;exact aY (k+1,.slice ad (([]:ae (ae Int)).length+1) (([]:ae (ae Int)).length+1)) wj rN
  |cons a0 acc=>
   have ha0:=QX.2 a0 (dP ..);refine go ?_;refine WC ai 0 a0 rfl (next:=λ_ _ u=>?_);refine gC (uY (xs:=a0) (ys:=ln) p0) λ_ _=>?_;by_cases h4:a0=ln
   rotate_left
   .rw[di h4];have hs2:mV la (lb.take (k+1))=(a0::acc)++[ln]:=by rw[hs];unfold za;rw[if_neg (show¬((a0::acc).head? =some ln)from λe=>h4 (Option.some.inj e))]
    refine go ?_;intro b39;refine go ?_;refine l7 (xs:=a0::acc) (az ai) ln (.slice a4 ln.length c4) (by have:=QX.1;omega) (next:=λad=>?_);rw[<- hs2];refine go ?_;exact aY (k+1,.slice ad ((a0::acc).length+1) ((a0::acc).length+1)) wj rN
   .rw[fo h4];have hs2:mV la (lb.take (k+1))=a0::acc:=by rw[hs];unfold za;rw[if_pos (by rw[h4];rfl)]
    rw[show ap (az ai) (Value.slice a3 (a0::acc).length (a0::acc).length) (a0::acc)=ap (az ai) (Value.slice a3 (a0::acc).length (a0::acc).length) (mV la (lb.take (k+1)))from congrArg _ hs2.symm];refine go ?_;exact aY (k+1,.slice a3 (a0::acc).length (a0::acc).length) wj rN
 have hke:k=lb.length:=p0
 subst hke;rw[eH,<- hD];refine go ?_;exact gQ v3 trivial
end Go.Proofs.YtignbinlipkmfaaGreatDoor
namespace Go.Proofs.YtignbinlipkmfaaGreatDoor
open Tryz (prog)
open Go.Ideal Kd
def ak8{c:Nat}:fC prog 173 [.slice none 0 c] [] (λ_:Unit=>.slice none 0 0) (λ_=>True):=by
 refine nZ LP QL λB w0=>?_;refine go ?_;refine(bV rfl rfl (G6 (e:=3) qk rfl)).h ?_;exact fH
def ak9{v:ah}{xs:ae Int}(hl:xs.length<=4096):bA prog (.func 173) [v] [] [] [aA ai v xs,KP v xs] (λv':ah=>v') (λv'=>[ap ai v' xs]) (λ_=>[]) (λ_=>True):=by
 intro B w s;by_cases hx:xs=[]
 .have hv:v=.slice none 0 0:=s.facts (KP v xs) (dO _ (dP ..)) hx;subst hx hv;refine .ji _ (ak8 (c:=0) B w ⟨s.agree,s.le,s.eT,s.own,λf hf=>(by cases hf)⟩) ?_;rintro r pm h' ⟨hp,w',y,e1,st,e2,_⟩;obtain⟨S,q1,q2,q3⟩:=st.own;exact⟨hp,w',.slice none 0 0,e1,⟨st.agree,st.le,st.eT,⟨S,⟨[],S,.inl ⟨rfl,rfl,rfl⟩,q1,rfl⟩,q2,q3⟩,st.facts⟩,e2,trivial⟩
 .obtain⟨aJ,h1,h2⟩:=Wi (s.facts (aA ai v xs) (dP ..));have hlen:aJ.length=xs.length:=by rw[<- h1,aS]
  refine .ji _ (YM (v:=v) (aJ:=aJ) p0 B w ⟨s.agree,s.le,s.eT,s.own,λf hf=>by rw[bF.1 hf];exact h2⟩) ?_;rintro r pm h' ⟨hp,w',y,e1,st,e2,_⟩;subst h1;exact⟨hp,w',y,e1,st.WM (by rw[hlen];exact Dm.2 hx) (λp hp f hf=>by cases hf),e2,trivial⟩
abbrev YR(g:bM)(k:Int)(y:QV):ae aH:=[wJ (y.e=0) (aA (az ai) y.v (gU g k))]
def ala{g:bM}{vh vc:ah}{k:Int}(hS:xQ g):
 bA prog (.func 98) [.agg ⟨mI g vh vc⟩,iV k] [] [] (qV g vh vc) LV (λ_=>[]) (λy=>YR g k y) (λy=>y.e=0↔fT g/\0<=k/\k<=7):=by
 refine gB 98 λB w0=>?_;refine go ?_;intro b2;refine gP b2 ?_;refine gC (YO (g:=g) (vh:=vh) (vc:=vc) hS) λy hy=>?_;obtain⟨vn,e⟩:=y;dsimp only at hy⊢;refine aP ?_ ?_<;>intro h1
 .refine go ?_;refine Bf (c:=e=0) (f:=aA (az ai) (.slice none 0 0) (gU g k)) h1 ?_;exact gQ ⟨.slice none 0 0,e⟩ ⟨(λh=>absurd h h1),λh=>absurd (hy.2 h.1) h1⟩
 have he:e=0:=lV.1 h1;subst he;have hg:=hy.1 rfl;have hgl:=hg.len;have hnl:=A8 g;have hnm:=Ll (g:=g);refine iN (aA (uP ai) vn (eZ g)) (λw hw=>hw (wJ ((0:Int)=0) (aA (uP ai) vn (eZ g))) qe rfl) ?_;refine iN (aA (az ai) vn (eZ g)) (λw hw=>WL (hw (aA (uP ai) vn (eZ g)) qe)) ?_;refine gF (az ai) vn (eZ g) λan cn en=>?_;subst en;refine aP (λhk=>?_) (λhk0=>?_)
 .subst hk;have hf:gU g 0=nM g.cells.length:=by simp[gU]
  refine go ?_;refine mF (az ai) ?_;refine dS (λy:Nat×ah=>g.cells.length - y.1) (λy=>[(31,iV (y.1:Int)),(4,y.2)]) (λy=>[ap (az ai) y.2 (nM y.1)]) (λ_=>[]) (λy=>y.1<=g.cells.length) (0,.slice none 0 0) (bS _) (hk:=qn) (body:=?_);rintro⟨i,v4⟩ hi;dsimp only at hi⊢;have hil:=Qa i;refine aP ?_ ?_<;>intro h2
  .refine go ?_;intro LY b37;refine qN (A:=pt LY (.cells [iV (i:Int)])) (fs:=[aA ai (.slice (some ⟨LY,0,some 0⟩) 1 1) [(i:Int)]]) (Av (b:=LY) (f:=0) (c:=1) (xs:=[(i:Int)])) (h:=?_);refine go ?_;refine l7 (xs:=nM i) (az ai) [(i:Int)] (.slice (some ⟨LY,0,some 0⟩) 1 1) p0 (next:=λad=>?_);rw[<- aiR];refine go ?_;exact aY (i+1,.slice ad ((nM i).length+1) ((nM i).length+1)) zp sX
  have hie:i=g.cells.length:=p0
  subst hie;refine gZ (jk (E:=az ai) (v:=v4) (xs:=nM g.cells.length)) ?_;refine go ?_;refine xR (c:=(0:Int)=0) (f:=aA (az ai) v4 (gU g 0)) rS ?_;exact gb
 refine aP (λhk=>?_) (λhk1=>?_)
 .subst hk;have hf:gU g 1=j6 g (λs=>(s.2,true)):=by simp[gU]
  refine gC (Ig (kf:=λs=>(s.2,true)) (vh:=vh) (vc:=vc) hg ak1) λv4 _=>?_;refine gZ (jk (E:=az ai) (v:=v4) (xs:=j6 g (λs=>(s.2,true)))) ?_;refine go ?_;refine xR (c:=(0:Int)=0) (f:=aA (az ai) v4 (gU g 1)) rS ?_;exact gQ ⟨v4,0⟩ ⟨λ_=>⟨hg,p0,p0⟩,λ_=>rfl⟩
 refine aP (λhk=>?_) (λhk2=>?_)
 .subst hk;have hf:gU g 2=j6 g (λs=>(s.1,true)):=by simp[gU]
  refine gC (Ig (kf:=λs=>(s.1,true)) (vh:=vh) (vc:=vc) hg ak2) λv4 _=>?_;refine gZ (jk (E:=az ai) (v:=v4) (xs:=j6 g (λs=>(s.1,true)))) ?_;refine go ?_;refine xR (c:=(0:Int)=0) (f:=aA (az ai) v4 (gU g 2)) rS ?_;exact gQ ⟨v4,0⟩ ⟨λ_=>⟨hg,p0,p0⟩,λ_=>rfl⟩
 refine aP (λhk=>?_) (λhk3=>?_)
 .subst hk;have hf:gU g 3=tN g:=by simp[gU]
  refine gC (ak6 (vh:=vh) (vc:=vc) hg) λv4 _=>?_;refine gZ (jk (E:=az ai) (v:=v4) (xs:=tN g)) ?_;refine go ?_;refine xR (c:=(0:Int)=0) (f:=aA (az ai) v4 (gU g 3)) rS ?_;exact gQ ⟨v4,0⟩ ⟨λ_=>⟨hg,p0,p0⟩,λ_=>rfl⟩
 refine aP (λhk=>?_) (λhk4=>?_)
 .subst hk;have hf:gU g 4=eZ g:=by simp[gU]
  refine go ?_;refine xR (c:=(0:Int)=0) (f:=aA (az ai) (.slice an (eZ g).length cn) (gU g 4)) rS ?_;exact gQ ⟨.slice an (eZ g).length cn,0⟩ ⟨λ_=>⟨hg,p0,p0⟩,λ_=>rfl⟩
 refine aP (λhk=>?_) (λhk5=>?_)
 .subst hk;have hf:gU g 5=pR (eZ g):=by simp[gU]
  generalize eZ g=aN at hnl hnm hf⊢;refine go ?_;refine mF (az ai) ?_;refine dS (λy:Nat×ah=>aN.length - y.1) (λy=>[(59,iV (y.1:Int)),(4,y.2)]) (λy=>[ap (az ai) y.2 (pR (aN.take y.1))]) (λ_=>[]) (λy=>y.1<=aN.length) (0,.slice none 0 0) (bS _) (hk:=qn) (body:=?_);rintro⟨i,v4⟩ hi;dsimp only at hi⊢;have hil:(pR (aN.take i)).length=i:=by rw[Xy,gq];omega
  refine aP ?_ ?_<;>intro h2
  .refine gX (uP ai) (xs:=aN) λ_ _ ln (vl:ah) hl=>?_;have hll:=hnm ln (aV hl);refine gC (ak9 (v:=vl) (xs:=ln) p0) λvc2 _=>?_;refine go ?_;intro b67;refine go ?_;refine l7 (xs:=ln) ai (i:Int) () p0 (next:=λad=>?_);refine go ?_;have hl1:ln.length+1=(ln++[(i:Int)]).length:=by simp
   rw[hl1];refine jY (LU (a:=ad) (zs:=ln++[(i:Int)]) rfl qu) (next:=λ_ _=>?_);have hz0:bP (ln++[(i:Int)])≠[]:=λe=>by have:=AO (ln++[(i:Int)]);rw[e]at this;simp at this
   have hfs:=aiS hl;generalize hzz:bP (ln++[(i:Int)])=zs at hfs⊢;refine gZ (jk (E:=ai) (v:=.slice ad (ln++[(i:Int)]).length (ln++[(i:Int)]).length) (xs:=zs)) ?_;refine go ?_;intro b73;refine go ?_;refine l7 (xs:=pR (aN.take i)) (az ai) zs (.slice ad (ln++[(i:Int)]).length (ln++[(i:Int)]).length) p0 (next:=λQY=>?_);rw[<- hfs];refine go ?_;exact aY (i+1,.slice QY ((pR (aN.take i)).length+1) ((pR (aN.take i)).length+1)) z6 sX
  have hie:i=aN.length:=p0
  subst hie;rw[eH];refine gZ (jk (E:=az ai) (v:=v4) (xs:=pR aN)) ?_;refine go ?_;refine xR (c:=(0:Int)=0) (f:=aA (az ai) v4 (gU g 5)) rS ?_;exact gb
 refine aP (λhk=>?_) (λhk6=>?_)
 .subst hk;have hf:gU g 6=kX (eZ g):=by simp[gU]
  generalize eZ g=aN at hnl hnm hf⊢;have h6:=Qb hnm;refine go ?_;refine mF (az ai) ?_;refine dS (λy:Nat×ah=>aN.length - y.1) (λy=>[(80,iV (y.1:Int)),(4,y.2)]) (λy=>[ap (az ai) y.2 (kX (aN.take y.1))]) (λ_=>[]) (λy=>y.1<=aN.length) (0,.slice none 0 0) (bS _) (hk:=qn) (body:=?_);rintro⟨i,v4⟩ hi;dsimp only at hi⊢;have hil:=h6 i hi;refine aP ?_ ?_<;>intro h2
  .refine gX (az ai) (xs:=aN) λ_ _ ln (vl:ah) hl=>?_;have hll:=hnm ln (aV hl);have hfs:=XA hl;refine gF ai vl ln λa4 c4 e4=>?_;subst e4;refine go ?_;refine dS (λy:Nat×ah=>ln.length - y.1) (λy=>[(87,iV (y.1:Int)),(4,y.2)]) (λy=>[ap (az ai) y.2 (kX (aN.take i)++mW i (ln.take y.1))]) (λ_=>[]) (λy=>y.1<=ln.length) (0,v4) (bS _) (hk:=by rw[show kX (aN.take i)++mW i (ln.take 0)=kX (aN.take i)from iH _];repeat (first|exact aM.nil|(apply aM.cons;(focus (repeat (first|exact aC.here|apply aC.there)))))) (body:=?_);rintro⟨j,v5⟩ hj;dsimp only at hj⊢;have hpl:=Xz i (ln.take j);rw[gq]at hpl;have hal:(kX (aN.take i)++mW i (ln.take j)).length<=2000:=by rw[dL];omega
   refine aP ?_ ?_<;>intro h3
   .refine go ?_;intro _ _ x hx;have hps:=aiT (i:=i) hx;refine aP ?_ ?_<;>intro h4
    .have QZ:kX (aN.take i)++mW i (ln.take (j+1))=(kX (aN.take i)++mW i (ln.take j))++[[(i:Int),x]]:=by rw[hps,if_pos p0,fq]
     refine go ?_;intro LZ b98;refine qN (A:=pt LZ (.cells [iV (i:Int),iV x])) (fs:=[aA ai (.slice (some ⟨LZ,0,some 0⟩) 2 2) [(i:Int),x]]) (Av (b:=LZ) (f:=0) (c:=2) (xs:=[(i:Int),x])) (h:=?_);refine go ?_;refine l7 (xs:=kX (aN.take i)++mW i (ln.take j)) (az ai) [(i:Int),x] (.slice (some ⟨LZ,0,some 0⟩) 2 2) p0 (next:=λQY=>?_);rw[<- QZ];refine go ?_;exact aY (j+1,.slice QY ((kX (aN.take i)++mW i (ln.take j)).length+1) ((kX (aN.take i)++mW i (ln.take j)).length+1)) z7 ua
    .have QZ:kX (aN.take i)++mW i (ln.take (j+1))=kX (aN.take i)++mW i (ln.take j):=by rw[hps,if_neg p0,iH]
     rw[<- QZ];refine go ?_;exact aY (j+1,v5) z7 ua
   have om:j=ln.length:=p0
   subst om;rw[eH,<- hfs];refine go ?_;exact aY (i+1,v5) z6 sX
  have hie:i=aN.length:=p0
  subst hie;rw[eH];refine gZ (jk (E:=az ai) (v:=v4) (xs:=kX aN)) ?_;refine go ?_;refine xR (c:=(0:Int)=0) (f:=aA (az ai) v4 (gU g 6)) rS ?_;exact gb
 refine aP (λhk=>?_) (λhk7=>?_)
 .subst hk;have hf:gU g 7=[upTo' g.cells.length]:=by simp[gU]
  refine go ?_;refine mF ai ?_;refine dS (λy:Nat×ah=>g.cells.length - y.1) (λy=>[(107,iV (y.1:Int)),(15,y.2)]) (λy=>[ap ai y.2 (upTo' y.1)]) (λ_=>[]) (λy=>y.1<=g.cells.length) (0,.slice none 0 0) (bS _) (hk:=qn) (body:=?_);rintro⟨i,v15⟩ hi;dsimp only at hi⊢;have hil:=jL i;refine aP ?_ ?_<;>intro h2
  .refine go ?_;intro arO;refine go ?_;refine l7 (xs:=upTo' i) ai (i:Int) () p0 (next:=λad=>?_);rw[<- EH];refine go ?_;exact aY (i+1,.slice ad ((upTo' i).length+1) ((upTo' i).length+1)) zp sX
  have hie:i=g.cells.length:=p0
  subst hie;refine gZ (jk (E:=ai) (v:=v15) (xs:=upTo' g.cells.length)) ?_;refine gF ai v15 (upTo' g.cells.length) λa4 c4 e4=>?_;subst e4;refine go ?_;intro L6;refine gP L6 ?_;refine iN (aA (az ai) (LX L6 1) [upTo' g.cells.length]) (λw hw=>ag0 (v:=.slice a4 (upTo' g.cells.length).length c4) (hw _ qe) (hw _ qe)) ?_;refine go ?_;refine xR (c:=(0:Int)=0) (f:=aA (az ai) (LX L6 1) (gU g 7)) rS ?_;exact gQ ⟨LX L6 1,0⟩ ⟨λ_=>⟨hg,p0,p0⟩,λ_=>rfl⟩
 refine go ?_;refine Bf (c:=(1:Int)=0) (f:=aA (az ai) (.slice none 0 0) (gU g k)) p0 ?_;exact gQ ⟨.slice none 0 0,1⟩ ⟨(λh=>by cases h),(λh=>by exfalso;obtain⟨_,q1,q2⟩:=h;omega)⟩
abbrev YS(g:bM)(rs:ae (ae Int))(y:QV):ae aH:=[wJ (y.e=0) (aA (az ai) y.v (iJ g rs))]
def YT{g:bM}{vh vc vr:ah}{rs:ae (ae Int)}(hS:xQ g)(hrl:rs.length<2^63)(hrs:∀ps∈rs,ps.length<2^63):
 bA prog (.func 99) [.agg ⟨mI g vh vc⟩,vr] [] [] (aA (az ai) vr rs::qV g vh vc) LV (λ_=>[]) (λy=>YS g rs y) (λy=>y.e=0↔fT g/\wD g rs):=by
 refine gB 99 λB w0=>?_;refine gF (az ai) vr rs λar cr er=>?_;subst er;refine go ?_;intro b2;refine gP b2 ?_;refine gC (QS (g:=g) hS) λe he=>?_;refine gH ?_ ?_<;>intro h1
 rotate_left
 .refine go ?_;refine Bf (c:=(130:Int)=0) (f:=aA (az ai) (.slice none 0 0) (iJ g rs)) p0 ?_;exact gQ ⟨.slice none 0 0,130⟩ ⟨(λh=>by cases h),λh=>absurd (he.2 h.1) h1⟩
 have hg:=he.1 p0;have hgl:=hg.len;have si:g.cells.Pairwise (·<·):=wc
 refine aP ?_ ?_<;>intro h2
 .refine go ?_;refine Bf (c:=(130:Int)=0) (f:=aA (az ai) (.slice none 0 0) (iJ g rs)) p0 ?_;exact gQ ⟨.slice none 0 0,130⟩ ⟨(λh=>by cases h),λh=>by exfalso;have:=h.2.len;omega⟩
 refine go ?_;refine mF (az ai) ?_;refine dS (λy:Nat×ah=>rs.length - y.1) (λy=>[(24,iV (y.1:Int)),(4,y.2)]) (λy=>[ap (az ai) y.2 (iJ g (rs.take y.1))]) (λ_=>[]) (λy=>y.1<=rs.length/\∀ps∈rs.take y.1,Lm g ps) (0,.slice none 0 0) ⟨bS _,λps h=>by cases h⟩ (hk:=qn) (body:=?_);rintro⟨k,v4⟩ ⟨hk,hall⟩;dsimp only at hk hall⊢;have hkl:(iJ g (rs.take k)).length=k:=by unfold iJ;rw[aS,gq];omega
 refine aP ?_ ?_<;>intro h3
 .refine gX (az ai) (xs:=rs) λ_ _ ps (vp:ah) hps=>?_;have hpm:=aV hps;have hpl:=hrs ps hpm;have htk:=gz hps;refine gF ai vp ps λa4 c4 e4=>?_;subst e4;refine go ?_;refine wz jN (λbm=>?_);refine go ?_;refine mF ai ?_;refine dS (λy:Nat×ah=>ps.length - y.1) (λy=>[(31,iV (y.1:Int)),(8,y.2)]) (λy=>[ap ai y.2 (iW g (ps.take y.1)),fw jN bm (A9 (iW g (ps.take y.1)))]) (λ_=>[]) (λy=>y.1<=ps.length/\(∀p∈ps.take y.1,p∈g.cells)/\(iW g (ps.take y.1)).Nodup) (0,.slice none 0 0) ⟨bS _,(λp h=>by cases h),wW⟩ (hk:=qn) (body:=?_);rintro⟨j,v8⟩ ⟨hj,hmem,hnd⟩;dsimp only at hj hmem hnd⊢;have hjl:(iW g (ps.take j)).length=j:=by unfold iW;rw[aS,gq];omega
  have hj2:j<=256:=by have:=Qf hmem hnd;rw[gq]at this;omega
  refine aP ?_ ?_<;>intro h4
  .refine go ?_;intro _ _ x hx;have htx:=gz hx;refine gC (YL (xs:=g.cells) (z:=x) p0 (si.imp λh=>Int.le_of_lt h)) λy hy=>?_;have hym:=hy.mem si;obtain⟨c,ok⟩:=y;dsimp only at hym⊢;cases ok with
   |false=>
    refine go ?_;refine Bf (c:=(130:Int)=0) (f:=aA (az ai) (.slice none 0 0) (iJ g rs)) p0 ?_;exact gQ ⟨.slice none 0 0,130⟩ ⟨(λh=>by cases h),λh=>by
     have:=hym.2 ((h.2.all ps hpm).mem x (aV hx));cases this⟩
   |true=>
    have hxm:=hym.1 rfl;have xH:g.cells[c]? =some x:=hy.2.2.2.1 rfl;have hpos:=Qc si xH;have hr1:iW g (ps.take (j+1))=iW g (ps.take j)++[(c:Int)]:=by unfold iW;rw[htx,dQ,yo,hpos]
    refine go ?_;refine Cw (aW:=jN) (b:=bm) (ay:=A9 (iW g (ps.take j))) Bg (c:Int) ?_;rw[aiV];refine aP ?_ ?_<;>intro h5
    .refine go ?_;refine Bf (c:=(130:Int)=0) (f:=aA (az ai) (.slice none 0 0) (iJ g rs)) p0 ?_;exact gQ ⟨.slice none 0 0,130⟩ ⟨(λh=>by cases h),λh=>by
      exfalso
      have h6:(iW g ps).Nodup:=(h.2.all ps hpm).nd;have h7:(iW g (ps.take (j+1))).Nodup:=by
       refine h6.sublist ?_;unfold iW;exact(List.take_sublist _ _).map _
      rw[hr1,iT]at h7;exact h7.2.2 _ h5 _ (bF.2 rfl) rfl⟩
    .refine go ?_;refine tu (aW:=jN) (b:=bm) (v:=.bool true) (ay:=A9 (iW g (ps.take j))) Bg (c:Int) ?_;rw[<- XB,<- hr1];refine go ?_;intro b53;refine go ?_;refine l7 (xs:=iW g (ps.take j)) ai (c:Int) () p0 (next:=λad=>?_);rw[<- hr1];refine go ?_;refine aY (j+1,.slice ad ((iW g (ps.take j)).length+1) ((iW g (ps.take j)).length+1)) (by show ps.length - (j+1)<ps.length - j;omega) ⟨by show j+1<=_;omega,?_,?_⟩
     .show∀p∈ps.take (j+1),p∈g.cells;rw[htx];intro p hp;rcases fO.1 hp with hp|hp
      .exact hmem p hp
      .rw[bF.1 hp];exact hxm
     .show(iW g (ps.take (j+1))).Nodup;rw[hr1,iT];exact⟨hnd,qe,λa ha b hb e=>h5 (by rw[bF.1 hb]at e;rw[<- e];exact ha)⟩
  have om:j=ps.length:=p0
  subst om;rw[eH]at hmem hnd⊢;have hrl2:(iW g ps).length=ps.length:=by unfold iW;rw[aS]
  refine Ic (E:=ai) (v:=v8) (xs:=iW g ps) λa8 e8=>?_;subst e8;refine aP ?_ ?_<;>intro h5
  .refine go ?_;refine Bf (c:=(130:Int)=0) (f:=aA (az ai) (.slice none 0 0) (iJ g rs)) p0 ?_;exact gQ ⟨.slice none 0 0,130⟩ ⟨(λh=>by cases h),λh=>by
    exfalso
    exact(h.2.all ps hpm).ne (mo.1 p0)⟩
  have hR:Lm g ps:=⟨λe=>h5 (by rw[hrl2,e];rfl),hmem,hnd⟩
  have hrr:iJ g (rs.take (k+1))=iJ g (rs.take k)++[iW g ps]:=by unfold iJ;rw[htk,dQ,yo]
  refine gZ (jk (E:=ai) (v:=.slice a8 (iW g ps).length (iW g ps).length) (xs:=iW g ps)) ?_;refine go ?_;intro b61;refine go ?_;refine l7 (xs:=iJ g (rs.take k)) (az ai) (iW g ps) (.slice a8 (iW g ps).length (iW g ps).length) p0 (next:=λad=>?_);rw[<- hrr];refine go ?_;refine aY (k+1,.slice ad ((iJ g (rs.take k)).length+1) ((iJ g (rs.take k)).length+1)) (by show rs.length - (k+1)<rs.length - k;omega) ⟨by show k+1<=_;omega,?_⟩;show∀qs∈rs.take (k+1),Lm g qs;rw[htk];intro qs hq;rcases fO.1 hq with hq|hq
  .exact hall qs hq
  .rw[bF.1 hq];exact hR
 have hke:k=rs.length:=p0
 subst hke;rw[eH]at hall⊢;refine gZ (jk (E:=az ai) (v:=v4) (xs:=iJ g rs)) ?_;refine go ?_;refine xR (c:=(0:Int)=0) (f:=aA (az ai) v4 (iJ g rs)) qe ?_;exact gQ ⟨v4,0⟩ ⟨λ_=>⟨hg,p0,hall⟩,λ_=>rfl⟩
