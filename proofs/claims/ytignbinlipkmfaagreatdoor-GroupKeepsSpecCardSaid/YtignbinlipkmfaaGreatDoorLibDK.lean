/- Part. -/
import Derived.Test.YtignbinlipkmfaaGreatDoorShelf
import Derived.Test.YtignbinlipkmfaaGreatDoorLibAK
set_option linter.all false
set_option maxRecDepth 10000
set_option maxHeartbeats 4000000
namespace Go.Proofs.YtignbinlipkmfaaGreatDoor
open Tryz (prog)
open Go.Ideal
noncomputable def Qa:=oQ prog 176
def Xy:lD prog 176=some Qa:=tv
def srt:OX prog 176:=λblk off cap zs w h1 h2 h3=>Any.slices_Sort_int Tryz.lays189 blk off cap zs w h1 h2 h3
open Go.Ideal Kd
noncomputable def K5:=oQ prog 173
def Qb:lD prog 173=some K5:=tv
noncomputable def Qc:=oQ prog 96
def aiz:lD prog 96=some Qc:=tv
variable{x:Int}
def aiA:dL prog 212 [iV x] [] (.bool false):=by
 refine gB 212 λB w0=>?_;refine aM ?_;rw[aY (λh=>h rfl)];rfl
def aiB:dL prog 238 [iV x] [] (.bool false):=by
 refine gB 238 λB w0=>?_;refine aM ?_;rw[aY (λh=>h rfl)];rfl
def aiC{y:Int}:dL prog 237 [iV x,iV y] [] (.bool (decide (x<y))):=by
 refine gB 237 λB w0=>?_;refine gC (aiA (x:=x)) λ_ _=>?_;exact fH
def Qd(xs:ae Int)(z:Int)(y:Nat×Bool):Prop:=y.1<=xs.length/\(∀(j:Nat) x,j<y.1->xs[j]? =some x->x<z)/\(∀(j:Nat) x,y.1<=j->xs[j]? =some x->z<=x)/\(y.2=true↔xs[y.1]? =some z)
variable{xs:ae Int}{z:Int}
def Qd.mem{y:Nat×Bool}(h:Qd xs z y)(hs:xs.Pairwise (·<·)):y.2=true↔z∈xs:=by
 obtain⟨h1,h2,h3,h4⟩:=h;rw[h4];refine⟨λh=>aS h,λh=>?_⟩;obtain⟨j,hj⟩:=wZ.1 h;have hjl:=(bC.1 hj)
 rcases RP j y.1 with h5|h5|h5
 .have:=h2 j z h5 hj;omega
 .rw[<- h5];exact hj
 .have hyl:y.1<xs.length:=by have:=hjl.1;omega
  have hy:xs[y.1]? =some xs[y.1]:=bX hyl;have h6:=h3 y.1 _ (bQ _) hy;have h7:=AZ.1 hs y.1 j hyl hjl.1 h5;rw[hjl.2]at h7;omega
variable{v:ah}
def Xz(hl:xs.length<4611686018427387904)(hs:xs.Pairwise (·<=·)):
 fC prog 174 [v,iV z] [aj ai v xs] (λy:Nat×Bool=>.tuple ⟨[iV (y.1:Int),.bool y.2]⟩) (Qd xs z):=by
 refine gB 174 λB w0=>?_;refine gL (λy:Nat×Nat=>y.2 - y.1) (λy=>[(7,iV (y.1:Int)),(8,iV (y.2:Int))]) (λy=>y.1<=y.2/\y.2<=xs.length/\(∀(j:Nat) x,j<y.1->xs[j]? =some x->x<z)/\(∀(j:Nat) x,y.2<=j->xs[j]? =some x->z<=x)) (0,xs.length) ⟨bP _,bQ _,λj x hj=>by omega,λj x hj hx=>by have:=(bC.1 hx).1;omega⟩ ?_;rintro⟨a,b⟩ ⟨hab,hb,hlo,hhi⟩;dsimp only at hab hb hlo hhi⊢;refine aB ?_ ?_<;>intro h1
 .have NJ:a<=(a+b)>>>1/\(a+b)>>>1<b:=by
   rw[RD];omega
  generalize hm:(a+b)>>>1=m at NJ;refine go ?_;rw[show(a:Int)+(b:Int)=((a+b:Nat):Int)by omega];refine(fo rfl rfl (O1 (k:=.u64) (m:=((a+b:Nat):Int)) (by kernel_rfl:prog.underlying 3=some (.int .i64)) tv rfl (age tr))).h ?_;refine(fo rfl rfl (agf (a:=a+b) (b:=1) rfl rfl tr)).h ?_;rw[hm];refine(fo rfl rfl (O1 (k:=.i64) (m:=(m:Int)) (by kernel_rfl:prog.underlying 53=some (.int .u64)) tv rfl (wrapN tr))).h ?_;refine go ?_;intro _ _ x hx;refine gC (aiC (x:=x) (y:=z)) λ_ _=>?_;refine go ?_;have hle:∀(i j:Nat) u v,i<=j->xs[i]? =some u->xs[j]? =some v->u<=v:=by
   intro i j u v hij hu hv;by_cases e:i=j
   .subst e;rw[hu]at hv;injection hv with hv;omega
   .exact AZ.1 hs i j (bC.1 hu).1 (bC.1 hv).1 tr|>λh=>by
     rw[(bC.1 hu).2,(bC.1 hv).2]at h;exact h
  refine jC rfl ?_ ?_<;>intro h2
  .refine go ?_;refine aQ (m+1,b) (by show b - (m+1)<b - a;omega) ⟨by show m+1<=b;omega,hb,λj u hj hu=>?_,hhi⟩;have:=hle j m u x (by show j<=m;have:j<m+1:=hj;omega) hu hx;omega
  .refine go ?_;refine aQ (a,m) (by show m - a<b - a;omega) ⟨by show a<=m;omega,by show m<=_;omega,hlo,λj u hj hu=>?_⟩;have:=hle m j x u hj hx hu;omega
 have hba:b=a:=tr
 subst hba;refine gH ?_ ?_<;>intro h2
 .have hn:xs[b]? =none:=iq tr;refine go ?_;exact gQ (b,false) ⟨by show b<=_;omega,hlo,hhi,by show false=true↔xs[b]? =some z;rw[hn];simp⟩
 refine go ?_;intro _ _ x hx;refine go ?_;by_cases hxz:x=z
 .subst hxz;rw[eB rfl];refine go ?_;exact gQ (b,true) ⟨by show b<=_;omega,hlo,hhi,by show true=true↔xs[b]? =some x;simp[hx]⟩
 .rw[aY hxz];refine go ?_;intro _ _ x2 hx2;refine gC (aiB (x:=x2)) λ_ _=>?_;refine go ?_;exact gQ (b,false) ⟨by show b<=_;omega,hlo,hhi,by show false=true↔xs[b]? =some z;rw[hx];simp[hxz]⟩
def XA{aN:ae (Int×ai.Y)}(hl:aN.length<=4096):cK prog (.func 173) [v] [] [] [tK ai v aN] (λv':ah=>v') (λv'=>[ar ai v' aN]) (λ_=>[]) (λ_=>True):=by
 refine jH K5 Qb λB w0=>?_;refine PY (v:=v) (aN:=aN) ai (λe c ev=>?_) (λe i o f c ev=>?_) (λhne i o f c ev=>?_)
 .subst e ev;refine go ?_;refine(fo rfl rfl (Gg (e:=3) tv rfl)).h ?_;refine go ?_;refine PZ ai ?_;exact ri
 .subst e ev;refine go ?_;refine(fo rfl rfl (Ae (e:=3) tv rfl)).h ?_;refine go ?_;intro b;refine go ?_;refine J5 (b:=b) ?_;refine go ?_;refine uR (b:=b) (m:=0) (f:=0) ai (aN:=[]) rfl (.inl rfl) ?_ (hk:=aD.here);exact mC
 .subst ev;refine go ?_;refine(fo rfl rfl (Ae (e:=3) tv rfl)).h ?_;refine go ?_;intro b;refine go ?_;refine J6 (b:=b) ai aN hne tr (λb'=>?_);refine go ?_;refine uR (b:=b') (m:=aN.length) (f:=ai.n) ai (aN:=aN) rfl (.inr rfl) ?_ (hk:=aD.here);exact gQ (.slice (some ⟨b',0,some ai.n⟩) aN.length aN.length) trivial
abbrev GJ:ae ah:=[iV 0,iV 0,iV 0,.slice none 0 0,.slice none 0 0]
abbrev jm(g:bB)(vh vc:ah):ae ah:=[iV g.shape,iV g.w,iV g.h,vh,vc]
abbrev jU(g:bB)(vh vc:ah):ae aP:=[aj ai vh g.holes,aj ai vc g.cells]
structure Qe where
 ok:Bool
 vh:Value
 vc:Value
def xQ(s w h:Int)(holes:ae Int):bB:=⟨s,w,h,holes,ny w h holes⟩
abbrev mkV(s w h:Int)(holes:ae Int)(y:Qe):ah:=.tuple ⟨[.agg ⟨cond y.ok (jm (xQ s w h holes) y.vh y.vc) GJ⟩,iV (cond y.ok 0 130)]⟩
abbrev qB(s w h:Int)(holes:ae Int)(y:Qe):ae aP:=cond y.ok (jU (xQ s w h holes) y.vh y.vc) []
def za(xs:ae Int):Int:=xs.getLast?.getD (-1)
def XB(xs:ae Int)(x:Int):za (xs++[x])=x:=by simp[za]
def aiD(h:∀x∈xs,0<=x): -1<=za xs:=by
 unfold za;cases hx:xs.getLast? with
 |none=>simp
 |some x=>
  have:=h x (List.mem_of_getLast? hx);simp only[wX];omega
def XC(h:xs.Pairwise (·<·)){a:Int}(ha:a∈xs):a<=za xs:=by
 unfold za;cases hx:xs.getLast? with
 |none=>rw[List.getLast?_eq_none_iff]at hx;subst hx;cases ha
 |some x=>
  obtain⟨ys,rfl⟩:=List.getLast?_eq_some_iff.1 hx;simp only[wX];rcases dY.1 ha with h1|h1
  .have:=(MF.1 h).2.2 a h1 x (bK.2 rfl);omega
  .rw[bK.1 h1];exact Int.le_refl _
def aiE{k:Nat}(h:xs.Pairwise (·<·))(hx:xs[k]? =some x)(h0:0<=x):za (xs.take k)<x:=by
 unfold za;cases hl:(xs.take k).getLast? with
 |none=>simp only[Option.getD_none];omega
 |some y=>
  simp only[wX];have hy:=List.mem_of_getLast? hl;have hd:xs=xs.take k++x::xs.drop (k+1):=by
   conv=>lhs;rw[<- xX k xs]
   rw[x8 (bC.1 hx).1,(bC.1 hx).2]
  rw[hd]at h;exact(MF.1 h).2.2 y hy x (fT ..)
def Qf{s w h:Int}{holes:ae Int}{vh:ah}(hw64:lI w)(aiF:lI h)(hl:holes.length<4611686018427387904):
 cK prog (.func 96) [iV s,iV w,iV h,vh] [] [] [aj ai vh holes] (mkV s w h holes) (λ_=>[]) (qB s w h holes) (λy=>y.ok=true↔qc s w h holes):=by
 have bad:¬qc s w h holes->∀{B:ae Nat} {w0:Wd} {kl:ae OA} {F:ae aP} {l:qr} {n b:Nat} {bD:ae OA},lk l 8=ptr' b->lk l 9=iV 130->aD (pt b (.cells GJ)) kl bD->
  R (λh0=>xA Qc (Go.Ideal.Left B w0 (mkV s w h holes) (λ_=>[]) (qB s w h holes) (λy=>y.ok=true↔qc s w h holes)) .ret (act n l [] none none) h0) B w0 kl F:=by
  intro hno B w0 kl F l n b bD h8 h9 hk;refine UA (bD:=kl) ⟨false,.nilFunc,.nilFunc⟩ (vs:=[.agg ⟨GJ⟩,iV 130]) ?_ rfl ⟨(λe=>by cases e),λe=>absurd e hno⟩ .nil .nil (.inr rfl);show RS l kl [.rD 5 8,.tmp 9] _;exact .rD h8 hk rfl (.tmp h9 .nil)
 refine jH Qc aiz λB w0=>?_;refine go ?_;intro b8;refine go ?_;by_cases hsh:s=1\/s=2
 rotate_left
 .rw[eB (show s≠1 from λe=>hsh (.inl e))];refine go ?_;rw[eB (show s≠2 from λe=>hsh (.inr e))];refine go ?_;exact bad (λh=>hsh h.sh) rfl rfl .here
 have hmk:∀sh,(sh=1\/sh=2)->(qc sh w h holes↔qc s w h holes):=λsh e=>⟨λq=>⟨hsh,q.wi,q.he,q.len,q.inc,q.mem⟩,λq=>⟨e,q.wi,q.he,q.len,q.inc,q.mem⟩⟩
 have h22:∀{B:ae Nat} {w0:Wd} {kl:ae OA} {F:ae aP} {K:KO} {ds:ae Tmp} {rest:ae bY} {n:Nat} {l:qr} {D:ae Deferred},
  R (λh0=>aJ prog ds rest (act n ((22,.bool false)::(21,.bool false)::l) D none none) h0 K) B w0 kl F->R (λh0=>aJ prog ds rest (act n ((22,.bool false)::(21,.bool false)::l) D none none) h0 K) B w0 kl F:=λh=>h
 rcases hsh with rfl|rfl;all_goals
  refine gH ?_ ?_<;>intro a1
  rotate_left
  .exact qq
  refine gH ?_ ?_<;>intro a2
  rotate_left
  .exact qq
  refine gH ?_ ?_<;>intro a3
  rotate_left
  .exact qt
  refine gH ?_ ?_<;>intro a4
  rotate_left
  .exact qt
  have hwh:=xE (w:=w) (h:=h) ⟨tr,tr⟩ ⟨tr,tr⟩;refine aB ?_ ?_<;>intro a5
  .refine go ?_;exact bad (λq=>by have:=q.len;omega) rfl rfl .here
  refine gL (λk=>holes.length - k) (λk:Nat=>[(49,iV (k:Int)),(10,iV (za (holes.take k)))]) (λk=>k<=holes.length/\(holes.take k).Pairwise (·<·)/\∀x∈holes.take k,0<=x/\x<w*h) 0 ⟨bP _,tt,tt⟩ ?_;rintro k ⟨hk,mW,hmem⟩;refine aB ?_ ?_<;>intro a6
  .refine go ?_;intro _ _ x hx;refine go ?_;have hxm:=aS hx;refine gG ?_ ?_<;>intro a7
   rotate_left
   .refine go ?_;exact bad (λq=>by
     have h1:=q.inc;have h2:=q.mem x hxm;have:=aiE h1 hx h2.1;omega) rfl rfl .here
   refine aB ?_ ?_<;>intro a8
   .refine go ?_;exact bad (λq=>by have:=q.mem x hxm;omega) rfl rfl .here
   refine go ?_;have htk:holes.take (k+1)=holes.take k++[x]:=by rw[oN,hx];rfl
   refine aQ (k+1) tr ⟨tr,?_,?_⟩ (hl:=⟨rfl,by rw[htk,XB];rfl,by repeat (first|exact trivial|refine⟨rfl,?_⟩)⟩)
   .rw[htk,MF];refine⟨mW,tt,λa ha b hb=>?_⟩;rw[bK.1 hb];have:=XC mW ha;omega
   .rw[htk];intro z hz;rcases dY.1 hz with hz|hz
    .exact hmem z hz
    .rw[bK.1 hz];have:=aiD (λy hy=>(hmem y hy).1);omega
  have hkl:k=holes.length:=tr
  subst hkl;rw[bM]at mW hmem;have hok:∀s',(s'=1\/s'=2)->qc s' w h holes:=λs' hs'=>⟨hs',⟨tr,tr⟩,⟨tr,tr⟩,tr,mW,hmem⟩
  obtain⟨m,hm⟩:=iO (show 0<=w*h by omega);have GK:ny w h holes=gY m holes:=by
   unfold ny;rw[hm];rfl
  refine go ?_;refine J3 ai vh (λxh hxh=>?_);have hxl:xh.length=holes.length:=by rw[<- hxh,bZ]
  refine eO (XA (aN:=xh) tr) (next:=λv1 _=>?_);refine J4 (E:=ai) (v:=v1) (aN:=xh) ?_ (λw h p hp f hf=>by cases hf);rw[hxh];refine gF ai v1 holes λa1 c1 e1=>?_;subst e1;refine go ?_;rw[hm];refine iy ai ?_;refine dX (λy:Nat×ak Addr=>m - y.1) (λy=>[(75,iV (y.1:Int))]) (λy=>[pt b8 (.cells [iV _,iV w,iV h,.slice a1 holes.length c1,.slice y.2 (gY y.1 holes).length (gY y.1 holes).length]),ap ai (.slice y.2 (gY y.1 holes).length (gY y.1 holes).length) (gY y.1 holes)]) (λ_=>[]) (λy=>y.1<=m) (0,none) (bP _) (hk:=tx) (body:=?_);rintro⟨k,ad⟩ hk;dsimp only at hk⊢;have hcl:=DW k holes;refine aB ?_ ?_<;>intro a9
  .refine gC (Xz (xs:=holes) (z:=(k:Int)) hl (mW.imp (λh=>Int.le_of_lt h))) λy hy=>?_;have hmm:=hy.mem mW;clear hy;obtain⟨n,b⟩:=y;dsimp only at hmm;refine go ?_;cases b with
   |true=>
    refine go ?_;have e1:gY (k+1) holes=gY k holes:=by rw[Km,if_pos (hmm.1 rfl),jd]
    rw[<- e1];exact aQ (k+1,ad) As Ax
   |false=>
    have hnm:¬(k:Int)∈holes:=λh=>by have:=hmm.2 h;cases this
    have e1:gY k holes++[(k:Int)]=gY (k+1) holes:=by rw[Km,if_neg hnm]
    have e2:(gY k holes).length+1=(gY (k+1) holes).length:=by rw[<- e1];simp
    refine go ?_;intro b89;refine go ?_;refine fI ai (xs:=gY k holes) (k:Int) () tr λad'=>?_;rw[e1,e2];refine go ?_;exact aQ (k+1,ad') As Ax
  have hkm:k=m:=tr
  subst hkm;refine go ?_;refine tu gI (A:=ap ai (.slice ad (gY k holes).length (gY k holes).length) (gY k holes)) (h:=?_);refine go ?_;refine gQ ⟨true,.slice a1 holes.length c1,.slice ad (gY k holes).length (gY k holes).length⟩ ⟨λ_=>hok _ (by first|exact .inl rfl|exact .inr rfl),λ_=>rfl⟩ (hF:=?_);show Sub [aj ai _ holes,aj ai _ (ny w h holes)] _;rw[GK];exact .cons tt (.cons tt .nil)
end Go.Proofs.YtignbinlipkmfaaGreatDoor
namespace Go.Proofs.YtignbinlipkmfaaGreatDoor
open Tryz (prog)
open Go.Ideal Kd
structure si(g:bB):Prop where
 w:lI g.w
 h:lI g.h
 holes:g.holes.length<4611686018427387904
 cells:g.cells.length<4611686018427387904
variable{g:bB}{vh vc:ah}
def XD(hS:si g):
 fC prog 104 [.agg ⟨jm g vh vc⟩] (jU g vh vc) (λe:Int=>iV e) (λe=>e=0↔eU g):=by
 refine gB 104 λB w0=>?_;refine go ?_;intro b1;refine gC (Qf (s:=g.shape) (w:=g.w) (h:=g.h) (holes:=g.holes) (vh:=vh) hS.w hS.h hS.holes) λy hy=>?_;obtain⟨ok,v1,v2⟩:=y;cases ok with
 |false=>
  exact eE
 |true=>
  have hmk:=hy.1 rfl;dsimp only[mkV,qB,cond,jU,xQ,List.cons_append,List.nil_append];refine go ?_;intro b3;refine gC (uY (xs:=ny g.w g.h g.holes) (ys:=g.cells) (by
   exact pD)) λ_ _=>?_
  exact e9
abbrev aiI(x:Int×(Int×Int)):ae ah:=[iV x.1,BL x.2]
def Qg{b1:Nat}(hg:eU g):uQ prog aiI (.func 239) [] [ptr' b1] [eZ b1 0 (jm g vh vc),aj ai vc g.cells] (λxs=>xs=bF g):=by
 intro S inv ok step s0 DJ y1 y2 F' h0 hok hy;have hgl:=hg.len;have mK:=hg.make.wi;rw[fK,fK,dU];refine gB 239 λB w0=>?_;refine go ?_;refine dX (λy:Nat×S=>g.cells.length - y.1) (λy=>[(10,iV (y.1:Int))]) (λy=>inv y.2) (λ_=>[]) (λy=>y.1<=g.cells.length/\ok ((bF g).take y.1) y.2/\kK step y.2 ((bF g).drop y.1)=kK step s0 (bF g)) (0,s0) ⟨bP _,h0,rfl⟩ (body:=?_);rintro⟨k,s⟩ ⟨hk,hos,hrun⟩;dsimp only at hk hos hrun⊢;refine aB ?_ ?_<;>intro h1
 .refine go ?_;intro _ _ x hx;have hxb:=hg.cell x (aS hx);have hsp:=yV hx;have hd:(bF g).drop k=((k:Int),oI g x)::(bF g).drop (k+1):=by
   rw[x8 z6];congr 1;rw[bX z6]at hsp;exact Option.some.inj hsp
  have hX:(bF g).take k++((k:Int),oI g x)::(bF g).drop (k+1)=bF g:=by rw[<- hd,xX]
  refine go ?_;refine(fo rfl rfl (OB (a:=x) (b:=g.w) rfl rfl tr)).h ?_;refine go ?_;have hq:0<=x.tdiv g.w/\x.tdiv g.w<=x:=by
   rw[vJ hxb.1];exact⟨ME hxb.1 tr,Int.ediv_le_self _ hxb.1⟩
  have hr:0<=x.tmod g.w/\x.tmod g.w<=x:=by
   rw[EG hxb.1];refine⟨Int.emod_nonneg _ tr,?_⟩;have:=RO x g.w;have h3:0<=g.w*(x/g.w):=Int.mul_nonneg tr (ME hxb.1 tr);omega
  refine(fo rfl rfl (JH (a:=x) (b:=g.w) rfl rfl tr tr tr)).h ?_;refine aB ?_ ?_<;>intro h2
  .have hso:oI g x=(x.tmod g.w - (x.tdiv g.w).tdiv 2,x.tdiv g.w):=by unfold oI;rw[if_pos h2]
   have hq2:0<=(x.tdiv g.w).tdiv 2/\(x.tdiv g.w).tdiv 2<=x.tdiv g.w:=by
    rw[vJ hq.1];omega
   rw[hso]at hX hd;have zb:=hy _ s _ _ hos hX;refine go ?_;refine(fo rfl rfl (JH (a:=x.tdiv g.w) (b:=2) rfl rfl tr tr tr)).h ?_;exact cJ
  .have hso:oI g x=(x.tmod g.w,x.tdiv g.w):=by unfold oI;rw[if_neg h2]
   rw[hso]at hX hd;have zb:=hy _ s _ _ hos hX;exact cJ
 have hkl:k=(bF g).length:=z6
 rw[hkl,List.drop_length]at hrun;refine go ?_;exact gQ (bF g) rfl (hk:=by rw[<- hrun];exact aO.all _)
end Go.Proofs.YtignbinlipkmfaaGreatDoor
namespace Go.Proofs.YtignbinlipkmfaaGreatDoor
open Tryz (prog)
open Go.Ideal Kd
def Qh:qG (mg prog rG rH):=rP _ _ _ (λf q h v h' hm=>by cases hm)
def aiJ(h:IH)(K:BR):(nL (mg prog rG rH) 1000).call ⟨.func 124,[.int .u64 0],[],none⟩ h K=K (.ok (iV 0)) none h:=tv
def aiK:dL prog 124 [.int .u64 0] [] (iV 0):=λB w s=>by
 have h2:=aiJ w.h λr pm h'=> @decide (pm=none/\r=.ok (iV 0)/\h'=w.h) (Classical.propDecidable _);have h1:=oW Qh (h2.trans (@eB _ (Classical.propDecidable _) ⟨rfl,rfl,rfl⟩));refine .kv _ h1 λr pm h' hg=>?_;obtain⟨rfl,rfl,rfl⟩:= @gT _ (Classical.propDecidable _) hg;exact⟨rfl,w,(),rfl,s,rfl,trivial⟩
variable{a:ak Addr}{c:Nat}
def aiL:dL prog 283 [.slice a 0 c,iV 0,iV 0] [] (.tuple ⟨[]⟩):=by
 refine gB 283 λB w0=>?_;refine go ?_;refine qa ?_;exact fH
def aiM:dL prog 240 [.slice a 0 c,iV 0,iV 0,iV 0] [] (.tuple ⟨[]⟩):=by
 refine gB 240 λB w0=>?_;refine go ?_;refine qa ?_;refine gC (aiL (a:=a) (c:=c)) λ_ _=>?_;exact fH
def aiN:dL prog 176 [.slice a 0 c] [] (.tuple ⟨[]⟩):=by
 refine jH Qa Xy λB w0=>?_;refine go ?_;refine(fo rfl rfl (O1 (k:=.u64) (m:=0) (by kernel_rfl:prog.underlying 3=some (.int .i64)) tv rfl tw)).h ?_;refine eO aiK (next:=λ_ _=>?_);refine gC (aiM (a:=a) (c:=c)) λ_ _=>?_;exact fH
def aiO:∃fn body,prog.funcs[176]? =some fn/\fn.body=some body/\fn.name≠ "runtime.NumGoroutine" :=by
 obtain⟨fn,h1,h2⟩:=Qh.fn 176 Qa Xy;have h3:prog.funcs[176]? =some fn:=h1;have h4:(fn.name== "runtime.NumGoroutine")=false:=by
  have e:(prog.funcs[176]?).map (λf=>f.name== "runtime.NumGoroutine")=some false:=tv
  exact oE
 have h5:fn.body.isSome=true:=by
  have e:(prog.funcs[176]?).map (λf=>f.body.isSome)=some true:=tv
  exact oE
 exact pC
def K6{m:Nat}{zs:ae Int}(hm:m=zs.length)(hl:zs.length<4611686018427387904):
 cK prog (.func 176) [.slice a m m] [] [ap ai (.slice a m m) zs] [] (λ_:Unit=>.tuple ⟨[]⟩) (λ_=>[ap ai (.slice a m m) (bR zs)]) (λ_=>[]) (λ_=>True):=by
 subst hm;obtain⟨fn,body,h1,h2,h3⟩:=aiO;by_cases hz:zs=[]
 .subst hz;have e:bR []=[]:=by simp[bR]
  rw[e];intro B w s;obtain⟨S1,s1,back⟩:=s.JX (k1:=[]) (bD:=[ap ai (.slice a 0 0) []]) (F1:=[]) .nil .nil;refine .kv _ (aiN (a:=a) (c:=0) S1 w s1) ?_;exact oA
 .exact af4 srt h1 h2 h3 (CF.2 hz) hl
def XE:tJ prog 195 BL:=agj (e:=3) tv tv tv (λa b=>by kernel_rfl)
variable{g:bB}{vh vc:ah}
def Qi:cK prog (.func 175) [.agg ⟨jm g vh vc⟩] [] [] (jU g vh vc) (λb:Nat=>.func (.func 239) #[] #[ptr' b]) (λ_=>[]) (λb=>[eZ b 0 (jm g vh vc),aj ai vc g.cells]) (λ_=>True):=by
 refine gB 175 λB w0=>?_;refine go ?_;intro b1;refine go ?_;refine gP b1 ?_;exact gQ b1 trivial
def kZ(c:Prop)(f:aP):aP:=⟨λw=>c->f.p w,λa h e=>f.mono a (h e)⟩
variable{B:ae Nat}{w0:Wd}{kl:ae OA}{F:ae aP}{Q:IH->Prop}{f:aP}
def lc{c:Prop}(hc:¬c)(h:R Q B w0 kl (kZ c f::F)):R Q B w0 kl F:=fM (kZ c f) (λw _ e=>absurd e hc) h
def lK{c:Prop}(hf:f∈F)(h:R Q B w0 kl (kZ c f::F)):R Q B w0 kl F:=fM (kZ c f) (λw hw _=>hw f hf) h
structure Qj where
 v:Value
 e:Int
abbrev xR(y:Qj):ah:=.tuple ⟨[y.v,iV y.e]⟩
def K7{S α:Type}(f:S->α->S):∀(xs:ae α) (s:S),oF (λs x=>(f s x,Out.normal)) s xs=(xs.foldl f s,.normal)
 |[],s=>rfl
 |x::xs,s=>by
  show oF (λs x=>(f s x,Out.normal)) (f s x) xs=_;rw[K7 f xs];rfl
section
variable {P:Program} {B:ae Nat} {w0:Wd} {kl kl':ae OA} {F:ae aP} {Q:IH->Prop}
def aiP{b:Nat}{cs cs':ae ah}(e:cs=cs')(h:R Q B w0 (pt b (.cells cs')::kl') F)(hk:aD (pt b (.cells cs)) kl kl':=by exact fB):R Q B w0 kl F:=by
 subst e;exact λw s=>h w (s.iw hk)
def qR{α:Type}{E:Enc α}{v:ah}{xs:ae α}(h:∀a,v=.slice a xs.length xs.length->R Q B w0 kl F)(hk:aD (ap E v xs) kl kl':=by exact fB):R Q B w0 kl F:=λw s=>by
 obtain⟨S,⟨S1,S2,q,_⟩,_⟩:=(s.iw hk).own;obtain⟨a,e⟩:=Oy q;exact h a e w s
end
abbrev Cc(b n:Nat):ah:=.slice (some ⟨b,0,some 0⟩) n n
def XF(hS:si g):
 cK prog (.func 97) [.agg ⟨jm g vh vc⟩] [] [] (jU g vh vc) xR (λ_=>[]) (λy=>[kZ (y.e=0) (aj (uU ai) y.v (bJ g))]) (λy=>y.e=0↔eU g):=by
 refine JU _ (vR 97) λB w0=>?_;refine go ?_;intro b1 b2;refine gC (XD (g:=g) hS) λe he=>?_;refine aB ?_ ?_<;>intro h1
 .refine go ?_;refine lc (c:=(130:Int)=0) (f:=aj (uU ai) (.slice none 0 0) (bJ g)) tr ?_;exact F5 ⟨.slice none 0 0,130⟩ (hv:=rfl) (hp:=⟨(λh=>by cases h),λh=>absurd (he.2 h) h1⟩)
 have hg:=he.1 tr;have hgl:=hg.len;have hsb:=Kq hg;have hsl:=qL g;refine go ?_;intro b4 b5;refine go ?_;refine UM (bD:=[pt b4 (.cells DX),pt b2 (.cells [.slice none 0 0]),pt b1 (.cells (jm g vh vc))]) [] (λ_:Unit=>[]) (λ_=>[pt b5 (.cells [iV (dS g:Int)])]) (λ_=>[]) (λ_=>True) (hx:=?_) (hy:=?_)
 .refine jC rfl ?_ ?_<;>intro h2
  .refine go ?_;rw[show(4:Int)=(dS g:Int)by unfold dS;rw[if_pos h2];rfl];exact JV () trivial
  .refine go ?_;rw[show(6:Int)=(dS g:Int)by unfold dS;rw[if_neg h2];rfl];exact JV () trivial
 intro _ _;refine go ?_;refine Ac BL (λbm=>?_);refine go ?_;intro b6;refine gC (Qi (g:=g) (vh:=vh) (vc:=vc)) λbs _=>?_;refine go ?_;refine Gd (Z:=Nat) (λ(m:ae ((Int×Int)×ah)) (x:Int×(Int×Int))=>(upd x.2 (iV x.1) m,.normal)) (λm=>[iG BL bm m,pt b6 (.cells [.map (some bm)])]) (λvs m=>m=fF vs) [] _ (λx b8=>[pt b8 (.cells [iV x.2.1,iV x.2.2])]) rfl (λvs s x rest hs _ _=>by rw[hs,Pk]) (Qg (b1:=bs) (vh:=vh) (vc:=vc) hg) A1 ?_ ?_ (λ_ _=>trivial)
 .intro vs s x rest b8 lo L B w0 hs hX;dsimp only[List.cons_append,List.nil_append];refine go ?_;refine yQ XE x.2 (v:=iV x.1) ?_;refine go ?_;exact mL
 intro r1 xs hxs;subst hxs;rw[K7 (λ(m:ae ((Int×Int)×ah)) (x:Int×(Int×Int))=>upd x.2 (iV x.1) m)];dsimp only[List.cons_append,List.nil_append];rw[show(bF g).foldl (λ(m:ae ((Int×Int)×ah)) (x:Int×(Int×Int))=>upd x.2 (iV x.1) m) []=fF (bF g)from rfl];refine gZ (DI (b:=bm)) ?_;refine gP b6 ?_;refine go ?_;refine F6 g.cells.length ⟨tr,tr,tr⟩ λbl=>?_;rw[show zeros [.slice none 0 0] g.cells.length=List.replicate g.cells.length (.slice none 0 0)from Uc _ _];refine agv (mF ai) (x0:=([]:ae Int)) (λw=>⟨.inl ⟨rfl,rfl,rfl⟩,λ_=>rfl⟩) (h:=?_);refine gC (Qi (g:=g) (vh:=vh) (vc:=vc)) λbs2 _=>?_;refine go ?_;refine gP b4 ?_;refine gP b5 ?_;have hml:(eD.take (dS g)).length=dS g:=by rw[iY];show min (dS g) 6=_;have:=BP g;omega
 refine fM (aj Pm (.slice (some ⟨b4,0,some 0⟩) (dS g) 6) (eD.take (dS g))) (λw h=>agX (h (eZ b4 0 DX) (fO _ (fT ..))) (BP g)) ?_;refine Gd (Z:=Nat) (λ(xss:ae (ae Int)) (x:Int×(Int×Int))=>(xss.set x.1.toNat (mU g x),.normal)) (λxss=>[o8 (mF ai) bl xss,pt b2 (.cells [Cc bl g.cells.length])]) (λvs xss=>xss=vs.map (mU g)++List.replicate (g.cells.length - vs.length) []) (List.replicate g.cells.length []) _ (λx b10=>[pt b10 (.cells [iV x.2.1,iV x.2.2])]) tt (λvs s x rest hs hX _=>by
  have h1:=Kt hX;rw[hs,h1.1];have:=V8 (A:=vs.map (mU g)) (n:=g.cells.length) (by rw[bZ];exact h1.2.1) (mU g x);rw[bZ]at this;rw[fQ,this,fG,ik];rfl) (Qg (b1:=bs2) (vh:=vh) (vc:=vc) hg) A1 ?_ ?_ (λ_ _=>trivial)
 .intro vs xss x rest b10 lo L B w0 hs hX;dsimp only[List.cons_append,List.nil_append];obtain⟨hc,hvl,hxm⟩:=Kt hX;have hbx:=hsb x hxm;obtain⟨c,s1,s2⟩:=x;dsimp only at hc hbx;subst hc;have hxk:xss[vs.length]? =some []:=by
   rw[hs,rq tt,bZ,xZ,HV,if_pos tr]
  have hxl:xss.length=g.cells.length:=by rw[hs];simp;omega
  refine go ?_;refine(fo rfl rfl (ag0 (m:=dS g) rfl rfl (BP g))).h ?_;refine go ?_;refine DR (A:=o8 (mF ai) bl xss) (A':=o8 (mF ai) bl (xss.set vs.length (gM (fF (bF g)) (s1,s2) ((eD.take (dS g)).take 0)))) (congrArg (o8 (mF ai) bl) (by
   apply jW;intro i;rw[nI];by_cases hi:vs.length=i
   .subst hi;rw[if_pos rfl,if_pos tr,hxk];rfl
   .rw[if_neg hi])) ?_
  refine dX (λj=>dS g - j) (λj:Nat=>[(47,iV (j:Int))]) (λj=>[o8 (mF ai) bl (xss.set vs.length (gM (fF (bF g)) (s1,s2) ((eD.take (dS g)).take j)))]) (λ_=>[]) (λj=>j<=dS g) 0 (bP _) (body:=?_);intro j hj;refine aB ?_ ?_<;>intro h2
  .refine go ?_;obtain⟨dd,hd⟩:∃dd,(eD.take (dS g))[j]? =some dd:=⟨_,bX tr⟩
   have hdb:=agY dd (Rq (aS hd));have hdv:jN (kF DX (j*2)) 2=some [iV dd.1,iV dd.2]:=agZ (j:=j) (d:=dd) (by rw[vF]at hd;split at hd;exact hd;cases hd)
   have hnr:=agW (fF (bF g)) (s1,s2) ((eD.take (dS g)).take j) dd;rw[<- cB hd]at hnr;have hnl:=Ko (fF (bF g)) (s1,s2) ((eD.take (dS g)).take j);have hjm:=BP g;rw[iY]at hnl;obtain⟨d1,d2⟩:=dd;dsimp only at hdb hdv hnr;refine(Us (o:=0) (j:=j*2) (cs:=DX) rfl rfl rfl (fO _ (fO _ (fT ..))) hdv).h ?_;refine go ?_;intro b12;refine go ?_;refine(fo rfl rfl (Dq (a:=s1) (b:=d1) rfl rfl tr tr)).h ?_;refine go ?_;refine(fo rfl rfl (Dq (a:=s2) (b:=d2) rfl rfl tr tr)).h ?_;refine go ?_;refine Xn XE (s1+d1,s2+d2) (λv hv hm=>?_) (λhm=>?_)
   .obtain⟨c,rfl,hc⟩:=V7 _ _ hv;rw[hv]at hnr;refine go ?_;refine VD (mF ai) (b:=bl) (xss:=xss.set vs.length (gM (fF (bF g)) (s1,s2) ((eD.take (dS g)).take j))) (k:=vs.length) (xs:=gM (fF (bF g)) (s1,s2) ((eD.take (dS g)).take j)) C7 (h:=λws v GL hv2=>?_);rw[ry]at GL;refine VF ai v (gM (fF (bF g)) (s1,s2) ((eD.take (dS g)).take j)) (λhz=>?_);refine tH (o:=0+vs.length*1) (cs:=ws) v (by rw[fq,uu];exact hv2) ?_;refine go ?_;intro b43;refine go ?_;refine Vv (xs:=gM (fF (bF g)) (s1,s2) ((eD.take (dS g)).take j)) ai c () tr (next:=λad=>?_);rw[show gM (fF (bF g)) (s1,s2) ((eD.take (dS g)).take j)++[c]=gM (fF (bF g)) (s1,s2) ((eD.take (dS g)).take (j+1))from hnr.symm];refine go ?_;refine qJ (o:=0+vs.length*1) (cs:=ws) (v:=.slice ad ((gM (fF (bF g)) (s1,s2) ((eD.take (dS g)).take j)).length+1) ((gM (fF (bF g)) (s1,s2) ((eD.take (dS g)).take j)).length+1)) (cs':=ws.set vs.length (.slice ad ((gM (fF (bF g)) (s1,s2) ((eD.take (dS g)).take j)).length+1) ((gM (fF (bF g)) (s1,s2) ((eD.take (dS g)).take j)).length+1))) (by rw[fq,uu]) tr ?_;refine VG ai (.slice ad ((gM (fF (bF g)) (s1,s2) ((eD.take (dS g)).take j)).length+1) ((gM (fF (bF g)) (s1,s2) ((eD.take (dS g)).take j)).length+1)) (gM (fF (bF g)) (s1,s2) ((eD.take (dS g)).take (j+1))) (λe=>by rw[hnr]at e;exact absurd e (by show¬(_++[c]=[]);simp)) ?_;refine VE (mF ai) (b:=bl) (xss:=xss.set vs.length (gM (fF (bF g)) (s1,s2) ((eD.take (dS g)).take j))) (vs:=ws) (k:=vs.length) (xs:=gM (fF (bF g)) (s1,s2) ((eD.take (dS g)).take (j+1))) (by rw[ry];exact GL) (by rw[ry];omega) (h:=?_);rw[List.set_set];refine go ?_;exact qS
   .rw[tN hm]at hnr;refine go ?_;refine DR (A:=o8 (mF ai) bl (xss.set vs.length (gM (fF (bF g)) (s1,s2) ((eD.take (dS g)).take j)))) (A':=o8 (mF ai) bl (xss.set vs.length (gM (fF (bF g)) (s1,s2) ((eD.take (dS g)).take (j+1))))) (congrArg (o8 (mF ai) bl) ((by rw[hnr];exact congrArg (xss.set vs.length) (jd _).symm))) ?_;exact qS
  have hjl:j=dS g:=tr
  subst hjl;refine DR (A:=o8 (mF ai) bl (xss.set vs.length (gM (fF (bF g)) (s1,s2) ((eD.take (dS g)).take (dS g))))) (A':=o8 (mF ai) bl (xss.set vs.length (gM (fF (bF g)) (s1,s2) (eD.take (dS g))))) (congrArg (o8 (mF ai) bl) ((congrArg (λz=>xss.set vs.length (gM (fF (bF g)) (s1,s2) z)) (vM (Nat.le_of_eq hml))))) ?_;refine go ?_;refine VD (mF ai) (b:=bl) (xss:=xss.set vs.length (gM (fF (bF g)) (s1,s2) (eD.take (dS g)))) (k:=vs.length) (xs:=gM (fF (bF g)) (s1,s2) (eD.take (dS g))) C7 (h:=λws v GL hv2=>?_);rw[ry]at GL;refine VF ai v (gM (fF (bF g)) (s1,s2) (eD.take (dS g))) (λhz=>?_);refine tH (o:=0+vs.length*1) (cs:=ws) v (by rw[fq,uu];exact hv2) ?_;have hn6:=Ko (fF (bF g)) (s1,s2) (eD.take (dS g));rw[hml]at hn6;have hjm:=BP g;refine qR (E:=ai) (v:=v) (xs:=gM (fF (bF g)) (s1,s2) (eD.take (dS g))) λa hv=>?_;subst hv;refine eO (K6 (a:=a) (zs:=gM (fF (bF g)) (s1,s2) (eD.take (dS g))) rfl tr) (next:=λ_ _=>?_);refine aiP (b:=bl) (cs:=ws) (cs':=ws.set vs.length (.slice a (gM (fF (bF g)) (s1,s2) (eD.take (dS g))).length (gM (fF (bF g)) (s1,s2) (eD.take (dS g))).length)) (ag1 hv2).symm ?_;refine VG ai (.slice a (gM (fF (bF g)) (s1,s2) (eD.take (dS g))).length (gM (fF (bF g)) (s1,s2) (eD.take (dS g))).length) (bR (gM (fF (bF g)) (s1,s2) (eD.take (dS g)))) (λe=>hz (jX.1 (by rw[<- Ad,e];rfl))) ?_;refine VE (mF ai) (b:=bl) (xss:=xss.set vs.length (gM (fF (bF g)) (s1,s2) (eD.take (dS g)))) (vs:=ws) (k:=vs.length) (xs:=bR (gM (fF (bF g)) (s1,s2) (eD.take (dS g)))) (by rw[ry];exact GL) (by rw[ry];omega) (h:=?_);refine DR (A:=o8 (mF ai) bl ((xss.set vs.length (gM (fF (bF g)) (s1,s2) (eD.take (dS g)))).set vs.length (bR (gM (fF (bF g)) (s1,s2) (eD.take (dS g)))))) (A':=o8 (mF ai) bl (xss.set ((vs.length:Int)).toNat (mU g ((vs.length:Int),s1,s2)))) (congrArg (o8 (mF ai) bl) ((by rw[List.set_set,fQ];rfl))) ?_;refine go ?_;exact Dz () rfl trivial trivial
 intro r2 xs2 aiS;subst aiS;rw[K7 (λ(xss:ae (ae Int)) (x:Int×(Int×Int))=>xss.set x.1.toNat (mU g x))];dsimp only[List.cons_append,List.nil_append];rw[show(bF g).foldl (λ(xss:ae (ae Int)) (x:Int×(Int×Int))=>xss.set x.1.toNat (mU g x)) (List.replicate g.cells.length [])=bJ g from ag2 g];refine gZ (agw (A:=mF ai) (E:=uU ai) (b:=bl) (xss:=bJ g) (c:=(bJ g).length) (λv=>v) rfl (λ_ _=>rfl) (λv xs=>agx)) ?_;rw[wE];refine go ?_;refine lK (c:=(0:Int)=0) (f:=aj (uU ai) (.slice (some ⟨bl,0,some 0⟩) g.cells.length g.cells.length) (bJ g)) tt ?_;exact F5 ⟨.slice (some ⟨bl,0,some 0⟩) g.cells.length g.cells.length,0⟩ (hv:=rfl) (hp:=⟨λ_=>hg,λ_=>rfl⟩)
end Go.Proofs.YtignbinlipkmfaaGreatDoor
namespace Go.Proofs.YtignbinlipkmfaaGreatDoor
open Tryz (prog)
open Go.Ideal Kd
def tX(n:Nat)(xs:ae Int):ae ah:=(List.range n).map λj:Nat=>.bool (decide ((j:Int)∈xs))
def XG(n:Nat)(xs:ae Int):(tX n xs).length=n:=by unfold tX;rw[bZ,qm]
variable{n j:Nat}{xs:ae Int}
def aiT(hj:j<n):(tX n xs)[0+j*1]? =some (.bool (decide ((j:Int)∈xs))):=by
 rw[fq,uu];unfold tX;rw[dN,ru hj];rfl
def aiU(hj:j<n):(tX n xs).set (0+j*1) (.bool true)=tX n (xs++[(j:Int)]):=by
 rw[fq,uu];apply jW;intro i;rw[nI,XG];unfold tX;by_cases hi:i<n
 .exact me
 .exact lj
def aiV(n:Nat):zeros [.bool false] n=tX n []:=by
 have h:zeros [.bool false] n=List.replicate n (.bool false):=by
  induction n with
  |zero=>rfl
  |succ n ih=>rw[Hz,<- ih];rfl
 rw[h];unfold tX;apply jW;intro i;rw[dN,HV];by_cases hi:i<n
 .rw[ru hi,if_pos hi];simp
 .rw[iq (by rw[qm];omega),if_neg hi];rfl
end Go.Proofs.YtignbinlipkmfaaGreatDoor
namespace Go.Proofs.YtignbinlipkmfaaGreatDoor
open Tryz (prog)
open Go.Ideal Kd
noncomputable def XH:=oQ prog 231
def aiW:lD prog 231=some XH:=tv
abbrev j6(n:Int):ah:=iV n
def Aq:tJ prog 3 j6:=afU tv
variable{bm:Nat}{az:ae (Int×ah)}
def aiX:cK prog (.func 241) [.map (some bm)] [] [] [uP j6 bm az] (λb:Nat=>.func (.func 291) #[] #[ptr' b]) (λ_=>[]) (λb=>[eZ b 0 [.map (some bm)],uP j6 bm az]) (λ_=>True):=by
 refine gB 241 λB w0=>?_;refine go ?_;intro b1;refine go ?_;refine gP b1 ?_;exact gQ b1 trivial
def aiY{b:Nat}:uQ prog (λx:Int=>[j6 x]) (.func 291) [] [ptr' b] [eZ b 0 [.map (some bm)],uP j6 bm az] (λxs=>xs.Perm (az.map (·.1))):=by
 intro S inv ok step s0 DJ y1 y2 F' h0 hok hy;rw[fK,fK,dU];refine gB 291 λB w0=>?_;refine go ?_;refine Vd (b:=bm) (az:=az) (bq:=j6) (next:=λr=>?_);refine go ?_;refine dX (λy:ae (Int×ah)×S=>az.length - y.1.length) (λy=>[]) (λy=>BJ j6 r bm az y.1::inv y.2) (λ_=>[]) (λy=>ok (y.1.map (·.1)) y.2/\(∃rest,(y.1++rest).Perm az)/\∀rest,kK step s0 (y.1.map (·.1)++rest)=kK step y.2 rest) ([],s0) ⟨h0,⟨az,.refl _⟩,λ_=>rfl⟩ (body:=?_);rintro⟨jg,s⟩ ⟨hos,_,hrun⟩;dsimp only at hos hrun⊢;refine go ?_;refine Ve (b:=bm) (az:=az) (jg:=jg) (bq:=j6) (more:=λp rem hp=>?_) (done:=λhp=>?_) ag3
 .have hX:(jg.map (·.1)++p.1::rem.map (·.1)).Perm (az.map (·.1)):=by
   have:=hp.map (·.1);rw[fG,iQ]at this;exact this
  have hlen:=hp.length_eq;rw[ik,oh]at hlen;have zb:=hy _ s _ _ hos hX;refine go ?_;refine Vf (bq:=j6) (az:=az) (jg:=jg) (p:=p) ?_;exact cD
 .exact j0
structure Qk where
 v:Value
 xs:List Int
variable{fn:Fn}{first captured:ae ah}{F1:ae aP}{X:ae Int->Prop}
def aiZ(hit:uQ prog (λx:Int=>[j6 x]) fn first captured F1 X)(hl:∀xs,X xs->xs.length<=1000000):
 cK prog (.func 312) [.slice none 0 0,.func fn ⟨first⟩ ⟨captured⟩] [] [] F1 (λy:Qk=>y.v) (λy=>[ap ai y.v y.xs]) (λ_=>[]) (λy=>X y.xs):=by
 refine JU Xa ah4 λB w0=>?_;refine go ?_;intro b2;refine iy ai ?_;refine JS (λv:ah=>[pt b2 (.cells [v]),ap ai v ([]:ae Int)]) (.slice none 0 0) (h:=?_);refine Gd (Z:=Nat) (λ(ys:ae Int) (x:Int)=>(ys++[x],Out.normal)) (λys=>[ah7 ai b2 ys]) (λvs ys=>ys=vs) [] _ (λ_ _=>[]) rfl (λvs s x rest hs hX _=>by rw[hs]) hit B9 ?_ ?_ (λ_ _=>trivial)
 .intro vs s x rest z lo L B w0 hs hx;subst hs;dsimp only[List.cons_append,List.nil_append];have hlen:s.length<=1000000:=by have:=hl _ hx;rw[ik,oh]at this;omega
  refine JR (h:=λv=>?_);refine go ?_;intro b10;refine fI (xs:=s) ai x () tr (next:=λad=>?_);refine go ?_;refine JS (λv:ah=>[pt b2 (.cells [v]),ap ai v (s++[x])]) _ (h:=?_);exact mL
 .intro r xs hX;have hrun:∀(ys zs:ae Int),oF (λ(ys:ae Int) (x:Int)=>(ys++[x],Out.normal)) ys zs=(ys++zs,.normal):=by
   exact mm
  rw[hrun,dU];dsimp only[List.cons_append,List.nil_append];refine JR (h:=λv=>?_);refine go ?_;exact F5 ⟨v,xs⟩ (hv:=rfl) (hp:=hX)
def ai0(hit:uQ prog (λx:Int=>[j6 x]) fn first captured F1 X)(hl:∀xs,X xs->xs.length<=1000000):
 cK prog (.func 280) [.func fn ⟨first⟩ ⟨captured⟩] [] [] F1 (λy:Qk=>y.v) (λy=>[ap ai y.v y.xs]) (λ_=>[]) (λy=>X y.xs):=by
 refine jH Xb ah5 λB w0=>?_;refine gC (aiZ hit hl) λy hy=>?_;dsimp only[List.cons_append,List.nil_append];refine go ?_;exact gQ y hy
def XI(hit:uQ prog (λx:Int=>[j6 x]) fn first captured F1 X)(hl:∀xs,X xs->xs.length<=1000000):
 cK prog (.func 231) [.func fn ⟨first⟩ ⟨captured⟩] [] [] F1 (λy:Qk=>y.v) (λy=>[ap ai y.v (bR y.xs)]) (λ_=>[]) (λy=>X y.xs):=by
 refine jH XH aiW λB w0=>?_;refine gC (ai0 hit hl) λy hy=>?_;obtain⟨v,xs⟩:=y;dsimp only[List.cons_append,List.nil_append]at hy⊢;have hlen:=hl _ hy;refine qR (E:=ai) (v:=v) (xs:=xs) λa hv=>?_;subst hv;refine gC (K6 (a:=a) (zs:=xs) rfl tr) λ_ _=>?_;refine go ?_;exact gQ ⟨.slice a xs.length xs.length,xs⟩ hy
def GM{g:bB}{vh vc:ah}{kf:Int×Int->Int×Bool}(hg:eU g)
 (hk:∀p∈bF g,cK prog fn (first++[BL p.2]) captured [] F1 (λ_:Unit=>.tuple ⟨[iV (kf p.2).1,.bool (kf p.2).2]⟩) (λ_=>[]) (λ_=>[]) (λ_=>True)):
 cK prog (.func 177) [.agg ⟨jm g vh vc⟩,.func fn ⟨first⟩ ⟨captured⟩] [] [] (aj ai vh g.holes::aj ai vc g.cells::F1) (λv:ah=>v) (λv=>[ap (aA ai) v (jr g kf)]) (λ_=>[]) (λ_=>True):=by
 have hgl:=hg.len;have hsl:=qL g;refine JU _ (vR 177) λB w0=>?_;refine go ?_;intro b2 b3;refine go ?_;refine Ac j6 (λbm=>?_);refine go ?_;intro b5;refine agn ai (b:=bm) (bq:=j6) ?_;refine gC (Qi (g:=g) (vh:=vh) (vc:=vc)) λbs _=>?_;refine go ?_;refine Gd (Z:=Nat) (λ(m:ae (Int×ae Int)) (x:Int×(Int×Int))=>(xG kf m x,.normal)) (λm=>[Gi j6 ai bm m,pt b5 (.cells [.map (some bm)]),pt b3 (.cells [.func fn ⟨first⟩ ⟨captured⟩])]) (λvs m=>m=jT kf vs) [] _ (λx b8=>[pt b8 (.cells [iV x.2.1,iV x.2.2])]) rfl (λvs s x rest hs _ _=>by rw[hs,Gr]) (Qg (b1:=bs) (vh:=vh) (vc:=vc) hg) A1 ?_ ?_ (λ_ _=>trivial)
 .intro vs s x rest b8 lo L B w0 hs hX;dsimp only[List.cons_append,List.nil_append];obtain⟨hc,hvl,hxm⟩:=Kt hX;have hkx:=hk x hxm;have hin:=Pn kf vs.length vs rfl;rw[<- hs]at hin;have hst:xG kf s x=cond (kf x.2).2 (upd (kf x.2).1 ((dK (kf x.2).1 s).getD []++[x.1]) s) s:=rfl;rw[hst];obtain⟨c,s1,s2⟩:=x;dsimp only at hc hkx hst⊢;subst hc;rcases hq:kf (s1,s2)with⟨kn,kb⟩
  rw[hq]at hkx;dsimp only at hkx⊢;refine gC hkx λ_ _=>?_;cases kb with
  |false=>
   dsimp only[cond];refine go ?_;exact mL
  |true=>
   dsimp only[cond];have hln:=hin.2 kn;refine go ?_;refine agp (bq:=j6) (E:=ai) (b:=bm) (m:=s) kn (h:=λaz v hkeys hv=>?_);refine Ga (b:=bm) (az:=az) Aq kn ?_;rw[hv];refine go ?_;intro b30;refine go ?_;refine Vv (xs:=(dK kn s).getD []) ai (vs.length:Int) () tr (next:=λad=>?_);refine go ?_;refine yQ (b:=bm) (v:=.slice ad (((dK kn s).getD []).length+1) (((dK kn s).getD []).length+1)) (az:=az) Aq kn ?_;refine agq (E:=ai) (v:=.slice ad (((dK kn s).getD []).length+1) (((dK kn s).getD []).length+1)) (xs:=(dK kn s).getD []++[(vs.length:Int)]) kn hkeys ?_;refine go ?_;exact mL
 .intro r xs hX;subst hX;rw[K7 (xG kf)];dsimp only[List.cons_append,List.nil_append];rw[show(bF g).foldl (xG kf) []=jT kf (bF g)from rfl];have hin:=Pn kf _ (bF g) rfl;rw[hsl]at hin;have hL:jr g kf=(bR ((jT kf (bF g)).map (·.1))).map λn=>(dK n (jT kf (bF g))).getD []:=rfl;generalize hm:jT kf (bF g)=m at hin hL⊢;refine agr (bq:=j6) (E:=ai) (b:=bm) (m:=m) (λaz hkeys=>?_);have hkl:az.length=m.length:=by have:=congrArg List.length hkeys;simpa using this
  refine gZ (DI (bq:=j6) (b:=bm) (az:=az)) ?_;refine gZ (agt (E:=ai) (az:=az) (m:=m) hkeys) ?_;refine gP b5 ?_;refine gC (aiX (bm:=bm) (az:=az)) λbk _=>?_;refine gC (XI (aiY (b:=bk) (bm:=bm) (az:=az)) (λxs h=>by have:=h.length_eq;rw[bZ]at this;omega)) λy hy=>?_;obtain⟨vk,ks⟩:=y;dsimp only[List.cons_append,List.nil_append]at hy⊢;have hks:bR ks=bR (m.map (·.1)):=V6 (by rw[<- hkeys];exact hy);rw[hks];have hkn:(bR (m.map (·.1))).length=m.length:=by rw[Ad,bZ]
  have hmem:∀n∈bR (m.map (·.1)),n∈m.map (·.1):=λn h=>wF.1 h;generalize hK:bR (m.map (·.1))=ns at hkn hL hmem⊢;refine gZ (gI (E:=ai) (v:=vk) (xs:=ns)) ?_;refine gF ai vk ns λa c e=>?_;subst e;refine go ?_;refine iy (aA ai) ?_;refine dX (λy:Nat×ah=>ns.length - y.1) (λy=>[(36,iV (y.1:Int)),(4,y.2)]) (λy=>[ap (aA ai) y.2 ((ns.take y.1).map λn=>(dK n m).getD [])]) (λ_=>[]) (λy=>y.1<=ns.length) (0,.slice none 0 0) (bP _) (hk:=tx) (body:=?_);rintro⟨k,v4⟩ hk2;dsimp only at hk2⊢;refine aB ?_ ?_<;>intro h1
  .refine go ?_;intro _ _ n hn;obtain⟨v,hv⟩:=Gq (a:=n) (l:=az) (by rw[hkeys];exact hmem n (aS hn));obtain⟨xs,hxs⟩:=Gq (a:=n) (l:=m) (hmem n (aS hn));have hlv:lX false (.slice none 0 0) n az=v:=by unfold lX;rw[hv];rfl
   have htk:(ns.take (k+1)).map (λn=>(dK n m).getD [])=(ns.take k).map (λn=>(dK n m).getD [])++[xs]:=by
    rw[cB hn,fG,sN,hxs];rfl
   have hxl:((ns.take k).map (λn=>(dK n m).getD [])).length=k:=by rw[bZ,iY];omega
   refine fM (aj ai v xs) (λw hw=>hw (Vy ai az m) tt n v xs hv hxs) ?_;refine gF ai v xs λa2 c2 e2=>?_;subst e2;refine go ?_;refine Va (bq:=j6) (b:=bm) (az:=az) Aq n ?_;rw[hlv];refine go ?_;intro b44;refine go ?_;refine fI (xs:=(ns.take k).map λn=>(dK n m).getD []) (aA ai) xs (.slice a2 xs.length c2) (by rw[hxl];omega) (next:=λad=>?_);rw[<- htk];refine go ?_;exact aQ (k+1,.slice ad (((ns.take k).map λn=>(dK n m).getD []).length+1) (((ns.take k).map λn=>(dK n m).getD []).length+1)) (by show ns.length - (k+1)<ns.length - k;omega) tM
  have hke:k=ns.length:=tr
  subst hke;rw[bM,<- hL];refine go ?_;exact F5 v4 (hv:=rfl) (hp:=trivial)
end Go.Proofs.YtignbinlipkmfaaGreatDoor
namespace Go.Proofs.YtignbinlipkmfaaGreatDoor
open Tryz (prog)
open Go.Ideal Kd
abbrev GN(fn:Fn)(first captured:ae ah)(F1:ae aP)(g:bB)(kf:Int×Int->Int×Bool):Prop:=
 ∀p∈bF g,cK prog fn (first++[BL p.2]) captured [] F1 (λ_:Unit=>.tuple ⟨[iV (kf p.2).1,.bool (kf p.2).2]⟩) (λ_=>[]) (λ_=>[]) (λ_=>True)
variable{g:bB}
def ai1:GN (.func 178) [] [] [] g (λs=>(s.2,true)):=λp hp=>by
 refine gB 178 λB w0=>?_;refine go ?_;intro b1;exact fH
def ai2:GN (.func 179) [] [] [] g (λs=>(s.1,true)):=λp hp=>by
 refine gB 179 λB w0=>?_;refine go ?_;intro b1;exact fH
def ai3(hg:eU g):GN (.func 242) [] [] [] g (λs=>(s.1+s.2,true)):=λp hp=>by
 have hb:=Kq hg p hp;obtain⟨c,s1,s2⟩:=p;dsimp only at hb⊢;refine gB 242 λB w0=>?_;refine go ?_;intro b1;exact fH
def ai4(hg:eU g):GN (.func 243) [] [] [] g (λs=>(0,decide (s.1=s.2))):=λp hp=>by
 have hb:=Kq hg p hp;refine gB 243 λB w0=>?_;refine go ?_;intro b1;exact fH
variable{vh vc:ah}
def ai5{b:Nat}(hg:eU g):GN (.func 244) [] [ptr' b] [eZ b 0 (jm g vh vc)] g (λs=>(0,decide (s.1+s.2=g.w - 1))):=λp hp=>by
 have hb:=Kq hg p hp;obtain⟨c,s1,s2⟩:=p;dsimp only at hb⊢;have hw:=hg.make.wi;refine gB 244 λB w0=>?_;refine go ?_;intro b1;exact fH
def ai6(hg:eU g):
 cK prog (.func 180) [.agg ⟨jm g vh vc⟩] [] [] (jU g vh vc) (λv:ah=>v) (λv=>[ap (aA ai) v (lZ g)]) (λ_=>[]) (λ_=>True):=by
 refine gB 180 λB w0=>?_;refine go ?_;intro b1;refine gP b1 ?_;refine aB ?_ ?_<;>intro h1
 .refine gC (GM (kf:=λs=>(s.1+s.2,true)) (vh:=vh) (vc:=vc) hg (ai3 hg)) λv _=>?_;refine go ?_;exact gQ v trivial (hk:=by unfold lZ;rw[if_pos h1];exact aO.all _)
 refine aB ?_ ?_<;>intro h2
 .refine go ?_;refine iy (aA ai) ?_;exact gQ (.slice none 0 0) trivial (hk:=by unfold lZ;rw[if_neg h1,if_neg h2];exact aO.all _)
 have h2:g.w=g.h:=iD.1 h2;refine gC (GM (kf:=λs=>(0,decide (s.1=s.2))) (vh:=vh) (vc:=vc) hg (ai4 hg)) λva _=>?_;refine gC (GM (kf:=λs=>(0,decide (s.1+s.2=g.w - 1))) (vh:=vh) (vc:=vc) hg (ai5 (vh:=vh) (vc:=vc) (b:=b1) hg)) λvb _=>?_;have hA:=Ku hg (λs=>(0,decide (s.1=s.2)));have hB:=Ku hg (λs=>(0,decide (s.1+s.2=g.w - 1)));have hD:lZ g=kP (jr g (λs=>(0,decide (s.1=s.2)))) (jr g (λs=>(0,decide (s.1+s.2=g.w - 1)))):=by unfold lZ;rw[if_neg h1,if_pos h2]
 generalize jr g (λs=>(0,decide (s.1=s.2)))=la at hA hD⊢;generalize jr g (λs=>(0,decide (s.1+s.2=g.w - 1)))=lb at hB hD⊢;have hF:=Po hA.2 hB.2;refine gZ (gI (E:=aA ai) (v:=vb) (xs:=lb)) ?_;refine gF (aA ai) vb lb λa c e=>?_;subst e;refine go ?_;refine dX (λy:Nat×ah=>lb.length - y.1) (λy=>[(22,iV (y.1:Int)),(3,y.2)]) (λy=>[ap (aA ai) y.2 (kP la (lb.take y.1))]) (λ_=>[]) (λy=>y.1<=lb.length) (0,va) (bP _) (hk:=tx) (body:=?_);rintro⟨k,v3⟩ hk2;dsimp only at hk2⊢;have Ql:=hF k;refine aB ?_ ?_<;>intro h3
 .refine gX (aA ai) (xs:=lb) λ_ _ ln (vl:ah) hl=>?_;have hs:=We (a:=la) hl;have hll:=hB.2 ln (aS hl);generalize kP la (lb.take k)=acc at Ql hs⊢;refine qR (E:=aA ai) (v:=v3) (xs:=acc) λa3 e3=>?_;subst e3;refine gF ai vl ln λa4 c4 e4=>?_;subst e4;cases acc with
  |nil=>
   have hs2:kP la (lb.take (k+1))=[]++[ln]:=hs;refine go ?_;intro b39;refine go ?_;refine fI (xs:=([]:ae (ae Int))) (aA ai) ln (.slice a4 ln.length c4) tt (next:=λad=>?_);rw[<- hs2];refine go ?_;exact aQ (k+1,.slice ad (([]:ae (ae Int)).length+1) (([]:ae (ae Int)).length+1)) A2 tM
  |cons a0 acc=>
   have ha0:=Ql.2 a0 (fT ..);refine go ?_;refine Ka ai 0 a0 rfl (next:=λ_ _ u=>?_);refine gC (uY (xs:=a0) (ys:=ln) tr) λ_ _=>?_;by_cases h4:a0=ln
   rotate_left
   .rw[aY h4];have hs2:kP la (lb.take (k+1))=(a0::acc)++[ln]:=by rw[hs];unfold uX;rw[if_neg (show¬((a0::acc).head? =some ln)from λe=>h4 (Option.some.inj e))]
    refine go ?_;intro b39;refine go ?_;refine fI (xs:=a0::acc) (aA ai) ln (.slice a4 ln.length c4) (by have:=Ql.1;omega) (next:=λad=>?_);rw[<- hs2];refine go ?_;exact aQ (k+1,.slice ad ((a0::acc).length+1) ((a0::acc).length+1)) A2 tM
   .rw[eB h4];have hs2:kP la (lb.take (k+1))=a0::acc:=by rw[hs];unfold uX;rw[if_pos (by rw[h4];rfl)]
    rw[show ap (aA ai) (Value.slice a3 (a0::acc).length (a0::acc).length) (a0::acc)=ap (aA ai) (Value.slice a3 (a0::acc).length (a0::acc).length) (kP la (lb.take (k+1)))from congrArg _ hs2.symm];refine go ?_;exact aQ (k+1,.slice a3 (a0::acc).length (a0::acc).length) A2 tM
 have hke:k=lb.length:=tr
 subst hke;rw[bM,<- hD];refine go ?_;exact gQ v3 trivial
end Go.Proofs.YtignbinlipkmfaaGreatDoor
namespace Go.Proofs.YtignbinlipkmfaaGreatDoor
open Tryz (prog)
open Go.Ideal Kd
def ai8{c:Nat}:fC prog 173 [.slice none 0 c] [] (λ_:Unit=>.slice none 0 0) (λ_=>True):=by
 refine jH K5 Qb λB w0=>?_;refine go ?_;refine(fo rfl rfl (Gg (e:=3) tv rfl)).h ?_;exact fH
def ai9{v:ah}{xs:ae Int}(hl:xs.length<=4096):cK prog (.func 173) [v] [] [] [aj ai v xs,Kb v xs] (λv':ah=>v') (λv'=>[ap ai v' xs]) (λ_=>[]) (λ_=>True):=by
 intro B w s;by_cases hx:xs=[]
 .have hv:v=.slice none 0 0:=s.facts (Kb v xs) (fO _ (fT ..)) hx;subst hx hv;refine .kv _ (ai8 (c:=0) B w ⟨s.agree,s.le,s.ig,s.own,λf hf=>(by cases hf)⟩) ?_;rintro r pm h' ⟨hp,w',y,e1,st,e2,_⟩;obtain⟨S,q1,q2,q3⟩:=st.own;exact⟨hp,w',.slice none 0 0,e1,⟨st.agree,st.le,st.ig,⟨S,⟨[],S,.inl ⟨rfl,rfl,rfl⟩,q1,rfl⟩,q2,q3⟩,st.facts⟩,e2,trivial⟩
 .obtain⟨aN,h1,h2⟩:=Vj (s.facts (aj ai v xs) (fT ..));have hlen:aN.length=xs.length:=by rw[<- h1,bZ]
  refine .kv _ (XA (v:=v) (aN:=aN) tr B w ⟨s.agree,s.le,s.ig,s.own,λf hf=>by rw[bK.1 hf];exact h2⟩) ?_;rintro r pm h' ⟨hp,w',y,e1,st,e2,_⟩;subst h1;exact⟨hp,w',y,e1,st.VI (by rw[hlen];exact CF.2 hx) (λp hp f hf=>by cases hf),e2,trivial⟩
abbrev K8(g:bB)(k:Int)(y:Qj):ae aP:=[kZ (y.e=0) (aj (aA ai) y.v (dD g k))]
def aja{g:bB}{vh vc:ah}{k:Int}(hS:si g):
 cK prog (.func 98) [.agg ⟨jm g vh vc⟩,iV k] [] [] (jU g vh vc) xR (λ_=>[]) (λy=>K8 g k y) (λy=>y.e=0↔eU g/\0<=k/\k<=7):=by
 refine gB 98 λB w0=>?_;refine go ?_;intro b2;refine gP b2 ?_;refine gC (XF (g:=g) (vh:=vh) (vc:=vc) hS) λy hy=>?_;obtain⟨vn,e⟩:=y;dsimp only at hy⊢;refine aB ?_ ?_<;>intro h1
 .exact gi
 have he:e=0:=iD.1 h1;subst he;have hg:=hy.1 rfl;have hgl:=hg.len;have hnl:=wE g;have hnm:=Gs (g:=g);refine fM (aj (uU ai) vn (bJ g)) (λw hw=>hw (kZ ((0:Int)=0) (aj (uU ai) vn (bJ g))) tt rfl) ?_;refine fM (aj (aA ai) vn (bJ g)) (λw hw=>VH (hw (aj (uU ai) vn (bJ g)) tt)) ?_;refine gF (aA ai) vn (bJ g) λan cn en=>?_;subst en;refine aB (λhk=>?_) (λhk0=>?_)
 .subst hk;have hf:dD g 0=mV g.cells.length:=by simp[dD]
  refine go ?_;refine iy (aA ai) ?_;refine dX (λy:Nat×ah=>g.cells.length - y.1) (λy=>[(31,iV (y.1:Int)),(4,y.2)]) (λy=>[ap (aA ai) y.2 (mV y.1)]) (λ_=>[]) (λy=>y.1<=g.cells.length) (0,.slice none 0 0) (bP _) (hk:=tx) (body:=?_);rintro⟨i,v4⟩ hi;dsimp only at hi⊢;have hil:=Pp i;refine aB ?_ ?_<;>intro h2
  .refine go ?_;intro ze Ar;refine tu (A:=pt ze (.cells [iV (i:Int)])) (fs:=[aj ai (.slice (some ⟨ze,0,some 0⟩) 1 1) [(i:Int)]]) (BB (b:=ze) (f:=0) (c:=1) (xs:=[(i:Int)])) (h:=?_);refine go ?_;refine fI (xs:=mV i) (aA ai) [(i:Int)] (.slice (some ⟨ze,0,some 0⟩) 1 1) tr (next:=λad=>?_);rw[<- Wh];refine go ?_;exact aQ (i+1,.slice ad ((mV i).length+1) ((mV i).length+1)) xT tP
  have hie:i=g.cells.length:=tr
  subst hie;refine gZ (gI (E:=aA ai) (v:=v4) (xs:=mV g.cells.length)) ?_;refine go ?_;refine lK (c:=(0:Int)=0) (f:=aj (aA ai) v4 (dD g 0)) tI ?_;exact kj
 refine aB (λhk=>?_) (λhk1=>?_)
 .subst hk;have hf:dD g 1=jr g (λs=>(s.2,true)):=by simp[dD]
  refine gC (GM (kf:=λs=>(s.2,true)) (vh:=vh) (vc:=vc) hg ai1) λv4 _=>?_;refine gZ (gI (E:=aA ai) (v:=v4) (xs:=jr g (λs=>(s.2,true)))) ?_;refine go ?_;refine lK (c:=(0:Int)=0) (f:=aj (aA ai) v4 (dD g 1)) tI ?_;exact gQ ⟨v4,0⟩ ⟨λ_=>⟨hg,tr,tr⟩,λ_=>rfl⟩
 refine aB (λhk=>?_) (λhk2=>?_)
 .subst hk;have hf:dD g 2=jr g (λs=>(s.1,true)):=by simp[dD]
  refine gC (GM (kf:=λs=>(s.1,true)) (vh:=vh) (vc:=vc) hg ai2) λv4 _=>?_;refine gZ (gI (E:=aA ai) (v:=v4) (xs:=jr g (λs=>(s.1,true)))) ?_;refine go ?_;refine lK (c:=(0:Int)=0) (f:=aj (aA ai) v4 (dD g 2)) tI ?_;exact gQ ⟨v4,0⟩ ⟨λ_=>⟨hg,tr,tr⟩,λ_=>rfl⟩
 refine aB (λhk=>?_) (λhk3=>?_)
 .subst hk;have hf:dD g 3=lZ g:=by simp[dD]
  refine gC (ai6 (vh:=vh) (vc:=vc) hg) λv4 _=>?_;refine gZ (gI (E:=aA ai) (v:=v4) (xs:=lZ g)) ?_;refine go ?_;refine lK (c:=(0:Int)=0) (f:=aj (aA ai) v4 (dD g 3)) tI ?_;exact gQ ⟨v4,0⟩ ⟨λ_=>⟨hg,tr,tr⟩,λ_=>rfl⟩
 refine aB (λhk=>?_) (λhk4=>?_)
 .subst hk;have hf:dD g 4=bJ g:=by simp[dD]
  exact eI
 refine aB (λhk=>?_) (λhk5=>?_)
 .subst hk;have hf:dD g 5=l5 (bJ g):=by simp[dD]
  generalize bJ g=aK at hnl hnm hf⊢;refine go ?_;refine iy (aA ai) ?_;refine dX (λy:Nat×ah=>aK.length - y.1) (λy=>[(59,iV (y.1:Int)),(4,y.2)]) (λy=>[ap (aA ai) y.2 (l5 (aK.take y.1))]) (λ_=>[]) (λy=>y.1<=aK.length) (0,.slice none 0 0) (bP _) (hk:=tx) (body:=?_);rintro⟨i,v4⟩ hi;dsimp only at hi⊢;have hil:(l5 (aK.take i)).length=i:=by rw[Pq,iY];omega
  refine aB ?_ ?_<;>intro h2
  .refine gX (uU ai) (xs:=aK) λ_ _ ln (vl:ah) hl=>?_;have hll:=hnm ln (aS hl);refine gC (ai9 (v:=vl) (xs:=ln) tr) λvc2 _=>?_;refine go ?_;intro b67;refine go ?_;refine fI (xs:=ln) ai (i:Int) () tr (next:=λad=>?_);refine go ?_;have hl1:ln.length+1=(ln++[(i:Int)]).length:=by simp
   rw[hl1];refine eO (K6 (a:=ad) (zs:=ln++[(i:Int)]) rfl tG) (next:=λ_ _=>?_);have hz0:bR (ln++[(i:Int)])≠[]:=λe=>by have:=Ad (ln++[(i:Int)]);rw[e]at this;simp at this
   have hfs:=Wi hl;generalize hzz:bR (ln++[(i:Int)])=zs at hfs⊢;refine gZ (gI (E:=ai) (v:=.slice ad (ln++[(i:Int)]).length (ln++[(i:Int)]).length) (xs:=zs)) ?_;refine go ?_;intro b73;refine go ?_;refine fI (xs:=l5 (aK.take i)) (aA ai) zs (.slice ad (ln++[(i:Int)]).length (ln++[(i:Int)]).length) tr (next:=λtY=>?_);rw[<- hfs];refine go ?_;exact aQ (i+1,.slice tY ((l5 (aK.take i)).length+1) ((l5 (aK.take i)).length+1)) Cd tP
  have hie:i=aK.length:=tr
  subst hie;rw[bM];refine gZ (gI (E:=aA ai) (v:=v4) (xs:=l5 aK)) ?_;refine go ?_;refine lK (c:=(0:Int)=0) (f:=aj (aA ai) v4 (dD g 5)) tI ?_;exact kj
 refine aB (λhk=>?_) (λhk6=>?_)
 .subst hk;have hf:dD g 6=iX (bJ g):=by simp[dD]
  generalize bJ g=aK at hnl hnm hf⊢;have h6:=Kv hnm;refine go ?_;refine iy (aA ai) ?_;refine dX (λy:Nat×ah=>aK.length - y.1) (λy=>[(80,iV (y.1:Int)),(4,y.2)]) (λy=>[ap (aA ai) y.2 (iX (aK.take y.1))]) (λ_=>[]) (λy=>y.1<=aK.length) (0,.slice none 0 0) (bP _) (hk:=tx) (body:=?_);rintro⟨i,v4⟩ hi;dsimp only at hi⊢;have hil:=h6 i hi;refine aB ?_ ?_<;>intro h2
  .refine gX (aA ai) (xs:=aK) λ_ _ ln (vl:ah) hl=>?_;have hll:=hnm ln (aS hl);have hfs:=Pt hl;refine gF ai vl ln λa4 c4 e4=>?_;subst e4;refine go ?_;refine dX (λy:Nat×ah=>ln.length - y.1) (λy=>[(87,iV (y.1:Int)),(4,y.2)]) (λy=>[ap (aA ai) y.2 (iX (aK.take i)++jK i (ln.take y.1))]) (λ_=>[]) (λy=>y.1<=ln.length) (0,v4) (bP _) (hk:=by rw[show iX (aK.take i)++jK i (ln.take 0)=iX (aK.take i)from jd _];repeat (first|exact aO.nil|(apply aO.cons;(focus (repeat (first|exact aD.here|apply aD.there)))))) (body:=?_);rintro⟨j,v5⟩ hj;dsimp only at hj⊢;have hpl:=Ps i (ln.take j);rw[iY]at hpl;have hal:(iX (aK.take i)++jK i (ln.take j)).length<=2000:=by rw[ik];omega
   refine aB ?_ ?_<;>intro h3
   .refine go ?_;intro _ _ x hx;have hps:=Wj (i:=i) hx;refine aB ?_ ?_<;>intro h4
    .have Ce:iX (aK.take i)++jK i (ln.take (j+1))=(iX (aK.take i)++jK i (ln.take j))++[[(i:Int),x]]:=by rw[hps,if_pos tr,gz]
     refine go ?_;intro zf b98;refine tu (A:=pt zf (.cells [iV (i:Int),iV x])) (fs:=[aj ai (.slice (some ⟨zf,0,some 0⟩) 2 2) [(i:Int),x]]) (BB (b:=zf) (f:=0) (c:=2) (xs:=[(i:Int),x])) (h:=?_);refine go ?_;refine fI (xs:=iX (aK.take i)++jK i (ln.take j)) (aA ai) [(i:Int),x] (.slice (some ⟨zf,0,some 0⟩) 2 2) tr (next:=λtY=>?_);rw[<- Ce];refine go ?_;exact aQ (j+1,.slice tY ((iX (aK.take i)++jK i (ln.take j)).length+1) ((iX (aK.take i)++jK i (ln.take j)).length+1)) Cl tU
    .have Ce:iX (aK.take i)++jK i (ln.take (j+1))=iX (aK.take i)++jK i (ln.take j):=by rw[hps,if_neg tr,jd]
     exact lz
   have iJ:j=ln.length:=tr
   subst iJ;rw[bM,<- hfs];refine go ?_;exact aQ (i+1,v5) Cd tP
  have hie:i=aK.length:=tr
  subst hie;rw[bM];refine gZ (gI (E:=aA ai) (v:=v4) (xs:=iX aK)) ?_;refine go ?_;refine lK (c:=(0:Int)=0) (f:=aj (aA ai) v4 (dD g 6)) tI ?_;exact kj
 refine aB (λhk=>?_) (λhk7=>?_)
 .subst hk;have hf:dD g 7=[upTo' g.cells.length]:=by simp[dD]
  refine go ?_;refine iy ai ?_;refine dX (λy:Nat×ah=>g.cells.length - y.1) (λy=>[(107,iV (y.1:Int)),(15,y.2)]) (λy=>[ap ai y.2 (upTo' y.1)]) (λ_=>[]) (λy=>y.1<=g.cells.length) (0,.slice none 0 0) (bP _) (hk:=tx) (body:=?_);rintro⟨i,v15⟩ hi;dsimp only at hi⊢;have hil:=nT i;refine aB ?_ ?_<;>intro h2
  .refine go ?_;intro ao5;exact bt
  have hie:i=g.cells.length:=tr
  subst hie;refine gZ (gI (E:=ai) (v:=v15) (xs:=upTo' g.cells.length)) ?_;refine gF ai v15 (upTo' g.cells.length) λa4 c4 e4=>?_;subst e4;refine go ?_;intro K9;refine gP K9 ?_;refine fM (aj (aA ai) (Cc K9 1) [upTo' g.cells.length]) (λw hw=>UK (v:=.slice a4 (upTo' g.cells.length).length c4) (hw _ tt) (hw _ tt)) ?_;refine go ?_;refine lK (c:=(0:Int)=0) (f:=aj (aA ai) (Cc K9 1) (dD g 7)) tI ?_;exact gQ ⟨Cc K9 1,0⟩ ⟨λ_=>⟨hg,tr,tr⟩,λ_=>rfl⟩
 refine go ?_;refine lc (c:=(1:Int)=0) (f:=aj (aA ai) (.slice none 0 0) (dD g k)) tr ?_;exact gQ ⟨.slice none 0 0,1⟩ ⟨(λh=>by cases h),(λh=>by exfalso;obtain⟨_,q1,q2⟩:=h;omega)⟩
abbrev La(g:bB)(rs:ae (ae Int))(y:Qj):ae aP:=[kZ (y.e=0) (aj (aA ai) y.v (dW g rs))]
def XJ{g:bB}{vh vc vr:ah}{rs:ae (ae Int)}(hS:si g)(hrl:rs.length<2^63)(hrs:∀ps∈rs,ps.length<2^63):
 cK prog (.func 99) [.agg ⟨jm g vh vc⟩,vr] [] [] (aj (aA ai) vr rs::jU g vh vc) xR (λ_=>[]) (λy=>La g rs y) (λy=>y.e=0↔eU g/\xI g rs):=by
 refine gB 99 λB w0=>?_;refine gF (aA ai) vr rs λar cr er=>?_;subst er;refine go ?_;intro b2;refine gP b2 ?_;refine gC (XD (g:=g) hS) λe he=>?_;refine gH ?_ ?_<;>intro h1
 rotate_left
 .exact fh
 have hg:=he.1 tr;have hgl:=hg.len;have mW:g.cells.Pairwise (·<·):=zp
 refine aB ?_ ?_<;>intro h2
 .exact eV
 refine go ?_;refine iy (aA ai) ?_;refine dX (λy:Nat×ah=>rs.length - y.1) (λy=>[(24,iV (y.1:Int)),(4,y.2)]) (λy=>[ap (aA ai) y.2 (dW g (rs.take y.1))]) (λ_=>[]) (λy=>y.1<=rs.length/\∀ps∈rs.take y.1,Aj g ps) (0,.slice none 0 0) ⟨bP _,λps h=>by cases h⟩ (hk:=tx) (body:=?_);rintro⟨k,v4⟩ ⟨hk,hall⟩;dsimp only at hk hall⊢;have hkl:(dW g (rs.take k)).length=k:=by unfold dW;rw[bZ,iY];omega
 refine aB ?_ ?_<;>intro h3
 .refine gX (aA ai) (xs:=rs) λ_ _ ps (vp:ah) hps=>?_;have hpm:=aS hps;have hpl:=hrs ps hpm;have htk:=cB hps;refine gF ai vp ps λa4 c4 e4=>?_;subst e4;refine go ?_;refine Ac j6 (λbm=>?_);refine go ?_;refine iy ai ?_;refine dX (λy:Nat×ah=>ps.length - y.1) (λy=>[(31,iV (y.1:Int)),(8,y.2)]) (λy=>[ap ai y.2 (fA g (ps.take y.1)),iG j6 bm (Ai (fA g (ps.take y.1)))]) (λ_=>[]) (λy=>y.1<=ps.length/\(∀p∈ps.take y.1,p∈g.cells)/\(fA g (ps.take y.1)).Nodup) (0,.slice none 0 0) ⟨bP _,(λp h=>by cases h),w9⟩ (hk:=tx) (body:=?_);rintro⟨j,v8⟩ ⟨hj,hmem,hnd⟩;dsimp only at hj hmem hnd⊢;have hjl:(fA g (ps.take j)).length=j:=by unfold fA;rw[bZ,iY];omega
  have hj2:j<=256:=Cp
  refine aB ?_ ?_<;>intro h4
  .refine go ?_;intro _ _ x hx;have htx:=cB hx;refine gC (Xz (xs:=g.cells) (z:=x) tr (mW.imp λh=>Int.le_of_lt h)) λy hy=>?_;have hym:=hy.mem mW;obtain⟨c,ok⟩:=y;dsimp only at hym⊢;cases ok with
   |false=>
    refine go ?_;refine lc (c:=(130:Int)=0) (f:=aj (aA ai) (.slice none 0 0) (dW g rs)) tr ?_;exact gQ ⟨.slice none 0 0,130⟩ ⟨(λh=>by cases h),λh=>by
     have:=hym.2 ((h.2.all ps hpm).mem x (aS hx));cases this⟩
   |true=>
    have hxm:=hym.1 rfl;have Eg:g.cells[c]? =some x:=hy.2.2.2.1 rfl;have hpos:=Kw mW Eg;have hr1:fA g (ps.take (j+1))=fA g (ps.take j)++[(c:Int)]:=CA
    refine go ?_;refine Ga (bq:=j6) (b:=bm) (az:=Ai (fA g (ps.take j))) Aq (c:Int) ?_;rw[ag5];refine aB ?_ ?_<;>intro h5
    .exact cR
    .refine go ?_;refine yQ (bq:=j6) (b:=bm) (v:=.bool true) (az:=Ai (fA g (ps.take j))) Aq (c:Int) ?_;rw[<- Wl,<- hr1];exact cF
  exact cj
 have hke:k=rs.length:=tr
 subst hke;rw[bM]at hall⊢;refine gZ (gI (E:=aA ai) (v:=v4) (xs:=dW g rs)) ?_;refine go ?_;refine lK (c:=(0:Int)=0) (f:=aj (aA ai) v4 (dW g rs)) tt ?_;exact gQ ⟨v4,0⟩ ⟨λ_=>⟨hg,tr,hall⟩,λ_=>rfl⟩
