/- Part. -/
import Derived.Test.YtignbinlipkmfaaGreatDoorShelf
import Derived.Test.YtignbinlipkmfaaGreatDoorLibAR
set_option linter.all false
set_option maxRecDepth 10000
set_option maxHeartbeats 4000000
namespace Go.Proofs.YtignbinlipkmfaaGreatDoor
open Tryz (prog)
open Go.Ideal
noncomputable def UY:=qd prog 176
def abN:lF prog 176=some UY:=th
def srt:Tv prog 176:=λblk off cap zs w h1 h2 h3=>Any.slices_Sort_int Tryz.lays189 blk off cap zs w h1 h2 h3
open Go.Ideal Kd
noncomputable def Pz:=qd prog 173
def UZ:lF prog 173=some Pz:=th
noncomputable def U0:=qd prog 96
def anY:lF prog 96=some U0:=th
variable{x:Int}
def anZ:dF prog 212 [iV x] [] (.bool false):=by
 refine gB 212 λB w0=>?_;refine aP ?_;rw[aW (λh=>h rfl)];rfl
def an0:dF prog 238 [iV x] [] (.bool false):=by
 refine gB 238 λB w0=>?_;refine aP ?_;rw[aW (λh=>h rfl)];rfl
def an1{y:Int}:dF prog 237 [iV x,iV y] [] (.bool (decide (x<y))):=by
 refine gB 237 λB w0=>?_;refine gC (anZ (x:=x)) λ_ _=>?_;exact fQ
def U4(xs:ae Int)(z:Int)(y:Nat×Bool):Prop:=y.1<=xs.length/\(∀(j:Nat) x,j<y.1->xs[j]? =some x->x<z)/\(∀(j:Nat) x,y.1<=j->xs[j]? =some x->z<=x)/\(y.2=true↔xs[y.1]? =some z)
variable{xs:ae Int}{z:Int}
def U4.mem{y:Nat×Bool}(h:U4 xs z y)(hs:xs.Pairwise (·<·)):y.2=true↔z∈xs:=by
 obtain⟨h1,h2,h3,h4⟩:=h;rw[h4];refine⟨λh=>aU h,λh=>?_⟩;obtain⟨j,hj⟩:=xG.1 h;have hjl:=(bJ.1 hj)
 rcases WH j y.1 with h5|h5|h5
 .have:=h2 j z h5 hj;omega
 .rw[<- h5];exact hj
 .have hyl:y.1<xs.length:=by have:=hjl.1;omega
  have hy:xs[y.1]? =some xs[y.1]:=bY hyl;have h6:=h3 y.1 _ (bI _) hy;have h7:=xI.1 hs y.1 j hyl hjl.1 h5;rw[hjl.2]at h7;omega
variable{v:ah}
def abO(hl:xs.length<4611686018427387904)(hs:xs.Pairwise (·<=·)):
 fC prog 174 [v,iV z] [aj ai v xs] (λy:Nat×Bool=>.tuple ⟨[iV (y.1:Int),.bool y.2]⟩) (U4 xs z):=by
 refine gB 174 λB w0=>?_;refine gL (λy:Nat×Nat=>y.2 - y.1) (λy=>[(7,iV (y.1:Int)),(8,iV (y.2:Int))]) (λy=>y.1<=y.2/\y.2<=xs.length/\(∀(j:Nat) x,j<y.1->xs[j]? =some x->x<z)/\(∀(j:Nat) x,y.2<=j->xs[j]? =some x->z<=x)) (0,xs.length) ⟨bH _,bI _,λj x hj=>by omega,λj x hj hx=>by have:=(bJ.1 hx).1;omega⟩ ?_;rintro⟨a,b⟩ ⟨hab,hb,hlo,hhi⟩;dsimp only at hab hb hlo hhi⊢;refine aC ?_ ?_<;>intro h1
 .have Je:a<=(a+b)>>>1/\(a+b)>>>1<b:=by
   rw[QX];omega
  generalize hm:(a+b)>>>1=m at Je;refine go ?_;rw[show(a:Int)+(b:Int)=((a+b:Nat):Int)by omega];refine(cZ rfl rfl (zw (k:=.u64) (m:=((a+b:Nat):Int)) (by kernel_rfl:prog.underlying 3=some (.int .i64)) th rfl (Ty tf))).h ?_;refine(cZ rfl rfl (ZL (a:=a+b) (b:=1) rfl rfl tf)).h ?_;rw[hm];refine(cZ rfl rfl (zw (k:=.i64) (m:=(m:Int)) (by kernel_rfl:prog.underlying 53=some (.int .u64)) th rfl (wrapN tf))).h ?_;refine go ?_;intro _ _ x hx;refine gC (an1 (x:=x) (y:=z)) λ_ _=>?_;refine go ?_;have hle:∀(i j:Nat) u v,i<=j->xs[i]? =some u->xs[j]? =some v->u<=v:=by
   intro i j u v hij hu hv;by_cases e:i=j
   .subst e;rw[hu]at hv;injection hv with hv;omega
   .exact xI.1 hs i j (bJ.1 hu).1 (bJ.1 hv).1 tf|>λh=>by
     rw[(bJ.1 hu).2,(bJ.1 hv).2]at h;exact h
  refine kW rfl ?_ ?_<;>intro h2
  .refine go ?_;refine aO (m+1,b) (by show b - (m+1)<b - a;omega) ⟨by show m+1<=b;omega,hb,λj u hj hu=>?_,hhi⟩;have:=hle j m u x (by show j<=m;have:j<m+1:=hj;omega) hu hx;omega
  .refine go ?_;refine aO (a,m) (by show m - a<b - a;omega) ⟨by show a<=m;omega,by show m<=_;omega,hlo,λj u hj hu=>?_⟩;have:=hle m j x u hj hx hu;omega
 have hba:b=a:=tf
 subst hba;refine gH ?_ ?_<;>intro h2
 .have hn:xs[b]? =none:=iJ tf;refine go ?_;exact gQ (b,false) ⟨by show b<=_;omega,hlo,hhi,by show false=true↔xs[b]? =some z;rw[hn];simp⟩
 refine go ?_;intro _ _ x hx;refine go ?_;by_cases hxz:x=z
 .subst hxz;rw[dQ rfl];refine go ?_;exact gQ (b,true) ⟨by show b<=_;omega,hlo,hhi,by show true=true↔xs[b]? =some x;simp[hx]⟩
 .rw[aW hxz];refine go ?_;intro _ _ x2 hx2;refine gC (an0 (x:=x2)) λ_ _=>?_;refine go ?_;exact gQ (b,false) ⟨by show b<=_;omega,hlo,hhi,by show false=true↔xs[b]? =some z;rw[hx];simp[hxz]⟩
def abP{aD:ae (Int×ai.Y)}(hl:aD.length<=4096):bG prog (.func 173) [v] [] [] [sP ai v aD] (λv':ah=>v') (λv'=>[ar ai v' aD]) (λ_=>[]) (λ_=>True):=by
 refine jD Pz UZ λB w0=>?_;refine UO (v:=v) (aD:=aD) ai (λe c ev=>?_) (λe i o f c ev=>?_) (λhne i o f c ev=>?_)
 .subst e ev;refine go ?_;refine(cZ rfl rfl (J3 (e:=3) th rfl)).h ?_;refine go ?_;refine UQ ai ?_;exact rh
 .subst e ev;refine go ?_;refine(cZ rfl rfl (Cu (e:=3) th rfl)).h ?_;refine go ?_;intro b;refine go ?_;refine Oq (b:=b) ?_;refine go ?_;refine wQ (b:=b) (m:=0) (f:=0) ai (aD:=[]) rfl (.inl rfl) ?_ (hk:=aB.here);exact nn
 .subst ev;refine go ?_;refine(cZ rfl rfl (Cu (e:=3) th rfl)).h ?_;refine go ?_;intro b;refine go ?_;refine Ot (b:=b) ai aD hne tf (λb'=>?_);refine go ?_;refine wQ (b:=b') (m:=aD.length) (f:=ai.n) ai (aD:=aD) rfl (.inr rfl) ?_ (hk:=aB.here);exact gQ (.slice (some ⟨b',0,some ai.n⟩) aD.length aD.length) trivial
abbrev KA:ae ah:=[iV 0,iV 0,iV 0,.slice none 0 0,.slice none 0 0]
abbrev iW(g:bA)(vh vc:ah):ae ah:=[iV g.shape,iV g.w,iV g.h,vh,vc]
abbrev jU(g:bA)(vh vc:ah):ae aM:=[aj ai vh g.holes,aj ai vc g.cells]
structure U5 where
 ok:Bool
 vh:Value
 vc:Value
def zK(s w h:Int)(holes:ae Int):bA:=⟨s,w,h,holes,pF w h holes⟩
abbrev mkV(s w h:Int)(holes:ae Int)(y:U5):ah:=.tuple ⟨[.agg ⟨cond y.ok (iW (zK s w h holes) y.vh y.vc) KA⟩,iV (cond y.ok 0 130)]⟩
abbrev rQ(s w h:Int)(holes:ae Int)(y:U5):ae aM:=cond y.ok (jU (zK s w h holes) y.vh y.vc) []
def A8(xs:ae Int):Int:=xs.getLast?.getD (-1)
def abQ(xs:ae Int)(x:Int):A8 (xs++[x])=x:=by simp[A8]
def an2(h:∀x∈xs,0<=x): -1<=A8 xs:=by
 unfold A8;cases hx:xs.getLast? with
 |none=>simp
 |some x=>
  have:=h x (List.mem_of_getLast? hx);simp only[Option.getD_some];omega
def abR(h:xs.Pairwise (·<·)){a:Int}(ha:a∈xs):a<=A8 xs:=by
 unfold A8;cases hx:xs.getLast? with
 |none=>rw[List.getLast?_eq_none_iff]at hx;subst hx;cases ha
 |some x=>
  obtain⟨ys,rfl⟩:=List.getLast?_eq_some_iff.1 hx;simp only[Option.getD_some];rcases eP.1 ha with h1|h1
  .have:=(Q4.1 h).2.2 a h1 x (bS.2 rfl);omega
  .rw[bS.1 h1];exact Int.le_refl _
def an3{k:Nat}(h:xs.Pairwise (·<·))(hx:xs[k]? =some x)(h0:0<=x):A8 (xs.take k)<x:=by
 unfold A8;cases hl:(xs.take k).getLast? with
 |none=>simp only[Option.getD_none];omega
 |some y=>
  simp only[Option.getD_some];have hy:=List.mem_of_getLast? hl;have hd:xs=xs.take k++x::xs.drop (k+1):=by
   conv=>lhs;rw[<- si k xs]
   rw[qp (bJ.1 hx).1,(bJ.1 hx).2]
  rw[hd]at h;exact(Q4.1 h).2.2 y hy x (fF ..)
def U6{s w h:Int}{holes:ae Int}{vh:ah}(hw64:lG w)(an4:lG h)(hl:holes.length<4611686018427387904):
 bG prog (.func 96) [iV s,iV w,iV h,vh] [] [] [aj ai vh holes] (mkV s w h holes) (λ_=>[]) (rQ s w h holes) (λy=>y.ok=true↔qZ s w h holes):=by
 have bad:¬qZ s w h holes->∀{B:ae Nat} {w0:Wd} {kl:ae OA} {F:ae aM} {l:qr} {n b:Nat} {bM:ae OA},lk l 8=ptr' b->lk l 9=iV 130->aB (pt b (.cells KA)) kl bM->
  R (λh0=>zg U0 (Go.Ideal.Left B w0 (mkV s w h holes) (λ_=>[]) (rQ s w h holes) (λy=>y.ok=true↔qZ s w h holes)) .ret (act n l [] none none) h0) B w0 kl F:=by
  intro hno B w0 kl F l n b bM h8 h9 hk;refine YU (bM:=kl) ⟨false,.nilFunc,.nilFunc⟩ (vs:=[.agg ⟨KA⟩,iV 130]) ?_ rfl ⟨(λe=>by cases e),λe=>absurd e hno⟩ .nil .nil (.inr rfl);show RS l kl [.sD 5 8,.tmp 9] _;exact .sD h8 hk rfl (.tmp h9 .nil)
 refine jD U0 anY λB w0=>?_;refine go ?_;intro b8;refine go ?_;by_cases hsh:s=1\/s=2
 rotate_left
 .rw[dQ (show s≠1 from λe=>hsh (.inl e))];refine go ?_;rw[dQ (show s≠2 from λe=>hsh (.inr e))];refine go ?_;exact bad (λh=>hsh h.sh) rfl rfl .here
 have hmk:∀sh,(sh=1\/sh=2)->(qZ sh w h holes↔qZ s w h holes):=λsh e=>⟨λq=>⟨hsh,q.wi,q.he,q.len,q.inc,q.mem⟩,λq=>⟨e,q.wi,q.he,q.len,q.inc,q.mem⟩⟩
 have h22:∀{B:ae Nat} {w0:Wd} {kl:ae OA} {F:ae aM} {K:KO} {ds:ae Tmp} {rest:ae bW} {n:Nat} {l:qr} {D:ae Deferred},
  R (λh0=>aJ prog ds rest (act n ((22,.bool false)::(21,.bool false)::l) D none none) h0 K) B w0 kl F->R (λh0=>aJ prog ds rest (act n ((22,.bool false)::(21,.bool false)::l) D none none) h0 K) B w0 kl F:=λh=>h
 rcases hsh with rfl|rfl;all_goals
  refine gH ?_ ?_<;>intro a1
  rotate_left
  .exact qk
  refine gH ?_ ?_<;>intro a2
  rotate_left
  .exact qk
  refine gH ?_ ?_<;>intro a3
  rotate_left
  .exact qn
  refine gH ?_ ?_<;>intro a4
  rotate_left
  .exact qn
  have hwh:=zB (w:=w) (h:=h) ⟨tf,tf⟩ ⟨tf,tf⟩;refine aC ?_ ?_<;>intro a5
  .refine go ?_;exact bad (λq=>by have:=q.len;omega) rfl rfl .here
  refine gL (λk=>holes.length - k) (λk:Nat=>[(49,iV (k:Int)),(10,iV (A8 (holes.take k)))]) (λk=>k<=holes.length/\(holes.take k).Pairwise (·<·)/\∀x∈holes.take k,0<=x/\x<w*h) 0 ⟨bH _,tg,tg⟩ ?_;rintro k ⟨hk,nY,hmem⟩;refine aC ?_ ?_<;>intro a6
  .refine go ?_;intro _ _ x hx;refine go ?_;have hxm:=aU hx;refine gG ?_ ?_<;>intro a7
   rotate_left
   .refine go ?_;exact bad (λq=>by
     have h1:=q.inc;have h2:=q.mem x hxm;have:=an3 h1 hx h2.1;omega) rfl rfl .here
   refine aC ?_ ?_<;>intro a8
   .refine go ?_;exact bad (λq=>by have:=q.mem x hxm;omega) rfl rfl .here
   refine go ?_;have htk:holes.take (k+1)=holes.take k++[x]:=by rw[qw,hx];rfl
   refine aO (k+1) tf ⟨tf,?_,?_⟩ (hl:=⟨rfl,by rw[htk,abQ];rfl,by repeat (first|exact trivial|refine⟨rfl,?_⟩)⟩)
   .rw[htk,Q4];refine⟨nY,tg,λa ha b hb=>?_⟩;rw[bS.1 hb];have:=abR nY ha;omega
   .rw[htk];intro z hz;rcases eP.1 hz with hz|hz
    .exact hmem z hz
    .rw[bS.1 hz];have:=an2 (λy hy=>(hmem y hy).1);omega
  have hkl:k=holes.length:=tf
  subst hkl;rw[bP]at nY hmem;have hok:∀s',(s'=1\/s'=2)->qZ s' w h holes:=λs' hs'=>⟨hs',⟨tf,tf⟩,⟨tf,tf⟩,tf,nY,hmem⟩
  obtain⟨m,hm⟩:=jK (show 0<=w*h by omega);have KC:pF w h holes=iM m holes:=by
   unfold pF;rw[hm];rfl
  refine go ?_;refine Gx ai vh (λxh hxh=>?_);have hxl:xh.length=holes.length:=by rw[<- hxh,bC]
  refine fD (abP (aD:=xh) tf) (next:=λv1 _=>?_);refine Oo (E:=ai) (v:=v1) (aD:=xh) ?_ (λw h p hp f hf=>by cases hf);rw[hxh];refine gF ai v1 holes λa1 c1 e1=>?_;subst e1;refine go ?_;rw[hm];refine gK ai ?_;refine di (λy:Nat×ak Addr=>m - y.1) (λy=>[(75,iV (y.1:Int))]) (λy=>[pt b8 (.cells [iV _,iV w,iV h,.slice a1 holes.length c1,.slice y.2 (iM y.1 holes).length (iM y.1 holes).length]),ap ai (.slice y.2 (iM y.1 holes).length (iM y.1 holes).length) (iM y.1 holes)]) (λ_=>[]) (λy=>y.1<=m) (0,none) (bH _) (hk:=tj) (body:=?_);rintro⟨k,ad⟩ hk;dsimp only at hk⊢;have hcl:=GL k holes;refine aC ?_ ?_<;>intro a9
  .refine gC (abO (xs:=holes) (z:=(k:Int)) hl (nY.imp (λh=>Int.le_of_lt h))) λy hy=>?_;have hmm:=hy.mem nY;clear hy;obtain⟨n,b⟩:=y;dsimp only at hmm;refine go ?_;cases b with
   |true=>
    refine go ?_;have e1:iM (k+1) holes=iM k holes:=by rw[OW,if_pos (hmm.1 rfl),iE]
    rw[<- e1];exact aO (k+1,ad) yW y3
   |false=>
    have hnm:¬(k:Int)∈holes:=λh=>by have:=hmm.2 h;cases this
    have e1:iM k holes++[(k:Int)]=iM (k+1) holes:=by rw[OW,if_neg hnm]
    have e2:(iM k holes).length+1=(iM (k+1) holes).length:=by rw[<- e1];simp
    refine go ?_;intro b89;refine go ?_;refine fJ ai (xs:=iM k holes) (k:Int) () tf λad'=>?_;rw[e1,e2];refine go ?_;exact aO (k+1,ad') yW y3
  have hkm:k=m:=tf
  subst hkm;refine go ?_;refine uy gD (A:=ap ai (.slice ad (iM k holes).length (iM k holes).length) (iM k holes)) (h:=?_);refine go ?_;refine gQ ⟨true,.slice a1 holes.length c1,.slice ad (iM k holes).length (iM k holes).length⟩ ⟨λ_=>hok _ (by first|exact .inl rfl|exact .inr rfl),λ_=>rfl⟩ (hF:=?_);show Sub [aj ai _ holes,aj ai _ (pF w h holes)] _;rw[KC];exact .cons tg (.cons tg .nil)
end Go.Proofs.YtignbinlipkmfaaGreatDoor
namespace Go.Proofs.YtignbinlipkmfaaGreatDoor
open Tryz (prog)
open Go.Ideal Kd
structure rR(g:bA):Prop where
 w:lG g.w
 h:lG g.h
 holes:g.holes.length<4611686018427387904
 cells:g.cells.length<4611686018427387904
variable{g:bA}{vh vc:ah}
def U7(hS:rR g):
 fC prog 104 [.agg ⟨iW g vh vc⟩] (jU g vh vc) (λe:Int=>iV e) (λe=>e=0↔eF g):=by
 refine gB 104 λB w0=>?_;refine go ?_;intro b1;refine gC (U6 (s:=g.shape) (w:=g.w) (h:=g.h) (holes:=g.holes) (vh:=vh) hS.w hS.h hS.holes) λy hy=>?_;obtain⟨ok,v1,v2⟩:=y;cases ok with
 |false=>
  exact fb
 |true=>
  have hmk:=hy.1 rfl;dsimp only[mkV,rQ,cond,jU,zK,List.cons_append,List.nil_append];refine go ?_;intro b3;refine gC (yI (xs:=pF g.w g.h g.holes) (ys:=g.cells) (by
   exact pC)) λ_ _=>?_
  exact fp
abbrev an7(x:Int×(Int×Int)):ae ah:=[iV x.1,jg x.2]
def U8{b1:Nat}(hg:eF g):wO prog an7 (.func 239) [] [ptr' b1] [dO b1 0 (iW g vh vc),aj ai vc g.cells] (λxs=>xs=bN g):=by
 intro S inv ok step s0 zq y1 y2 F' h0 hok hy;have hgl:=hg.len;have mW:=hg.make.wi;rw[fB,fB,dP];refine gB 239 λB w0=>?_;refine go ?_;refine di (λy:Nat×S=>g.cells.length - y.1) (λy=>[(10,iV (y.1:Int))]) (λy=>inv y.2) (λ_=>[]) (λy=>y.1<=g.cells.length/\ok ((bN g).take y.1) y.2/\jG step y.2 ((bN g).drop y.1)=jG step s0 (bN g)) (0,s0) ⟨bH _,h0,rfl⟩ (body:=?_);rintro⟨k,s⟩ ⟨hk,hos,hrun⟩;dsimp only at hk hos hrun⊢;refine aC ?_ ?_<;>intro h1
 .refine go ?_;intro _ _ x hx;have hxb:=hg.cell x (aU hx);have hsp:=AP hx;have hd:(bN g).drop k=((k:Int),jY g x)::(bN g).drop (k+1):=by
   rw[qp ya];congr 1;rw[bY ya]at hsp;exact Option.some.inj hsp
  have hX:(bN g).take k++((k:Int),jY g x)::(bN g).drop (k+1)=bN g:=by rw[<- hd,si]
  refine go ?_;refine(cZ rfl rfl (Ea (a:=x) (b:=g.w) rfl rfl tf)).h ?_;refine go ?_;have hq:0<=x.tdiv g.w/\x.tdiv g.w<=x:=by
   exact kx
  have hr:0<=x.tmod g.w/\x.tmod g.w<=x:=by
   exact dy
  refine(cZ rfl rfl (D9 (a:=x) (b:=g.w) rfl rfl tf tf tf)).h ?_;refine aC ?_ ?_<;>intro h2
  .have hso:jY g x=(x.tmod g.w - (x.tdiv g.w).tdiv 2,x.tdiv g.w):=by unfold jY;rw[if_pos h2]
   have hq2:0<=(x.tdiv g.w).tdiv 2/\(x.tdiv g.w).tdiv 2<=x.tdiv g.w:=by
    rw[su hq.1];omega
   rw[hso]at hX hd;have uI:=hy _ s _ _ hos hX;refine go ?_;refine(cZ rfl rfl (D9 (a:=x.tdiv g.w) (b:=2) rfl rfl tf tf tf)).h ?_;exact cR
  .have hso:jY g x=(x.tmod g.w,x.tdiv g.w):=by unfold jY;rw[if_neg h2]
   rw[hso]at hX hd;have uI:=hy _ s _ _ hos hX;exact cR
 have hkl:k=(bN g).length:=ya
 rw[hkl,List.drop_length]at hrun;refine go ?_;exact gQ (bN g) rfl (hk:=by rw[<- hrun];exact aH.all _)
end Go.Proofs.YtignbinlipkmfaaGreatDoor
namespace Go.Proofs.YtignbinlipkmfaaGreatDoor
open Tryz (prog)
open Go.Ideal Kd
def PD:sH (ni prog uk ul):=uu _ _ _ (λf q h v h' hm=>by cases hm)
def an8(h:IH)(K:BR):(oZ (ni prog uk ul) 1000).call ⟨.func 124,[.int .u64 0],[],none⟩ h K=K (.ok (iV 0)) none h:=th
def an9:dF prog 124 [.int .u64 0] [] (iV 0):=λB w s=>by
 have h2:=an8 w.h λr pm h'=> @decide (pm=none/\r=.ok (iV 0)/\h'=w.h) (Classical.propDecidable _);have h1:=qB PD (h2.trans (@dQ _ (Classical.propDecidable _) ⟨rfl,rfl,rfl⟩));refine .jP _ h1 λr pm h' hg=>?_;obtain⟨rfl,rfl,rfl⟩:= @iN _ (Classical.propDecidable _) hg;exact⟨rfl,w,(),rfl,s,rfl,trivial⟩
variable{a:ak Addr}{c:Nat}
def aoa:dF prog 283 [.slice a 0 c,iV 0,iV 0] [] (.tuple ⟨[]⟩):=by
 refine gB 283 λB w0=>?_;refine go ?_;refine qX ?_;exact fQ
def aob:dF prog 240 [.slice a 0 c,iV 0,iV 0,iV 0] [] (.tuple ⟨[]⟩):=by
 refine gB 240 λB w0=>?_;refine go ?_;refine qX ?_;refine gC (aoa (a:=a) (c:=c)) λ_ _=>?_;exact fQ
def aoc:dF prog 176 [.slice a 0 c] [] (.tuple ⟨[]⟩):=by
 refine jD UY abN λB w0=>?_;refine go ?_;refine(cZ rfl rfl (zw (k:=.u64) (m:=0) (by kernel_rfl:prog.underlying 3=some (.int .i64)) th rfl tn)).h ?_;refine fD an9 (next:=λ_ _=>?_);refine gC (aob (a:=a) (c:=c)) λ_ _=>?_;exact fQ
def aod:∃fn body,prog.funcs[176]? =some fn/\fn.body=some body/\fn.name≠ "runtime.NumGoroutine" :=by
 obtain⟨fn,h1,h2⟩:=PD.fn 176 UY abN;have h3:prog.funcs[176]? =some fn:=h1;have h4:(fn.name== "runtime.NumGoroutine")=false:=by
  have e:(prog.funcs[176]?).map (λf=>f.name== "runtime.NumGoroutine")=some false:=th
  exact jx
 have h5:fn.body.isSome=true:=by
  have e:(prog.funcs[176]?).map (λf=>f.body.isSome)=some true:=th
  exact jx
 exact jz
def PE{m:Nat}{zs:ae Int}(hm:m=zs.length)(hl:zs.length<4611686018427387904):
 bG prog (.func 176) [.slice a m m] [] [ap ai (.slice a m m) zs] [] (λ_:Unit=>.tuple ⟨[]⟩) (λ_=>[ap ai (.slice a m m) (cK zs)]) (λ_=>[]) (λ_=>True):=by
 subst hm;obtain⟨fn,body,h1,h2,h3⟩:=aod;by_cases hz:zs=[]
 .subst hz;have e:cK []=[]:=by simp[cK]
  rw[e];intro B w s;obtain⟨S1,s1,back⟩:=s.Oi (k1:=[]) (bM:=[ap ai (.slice a 0 0) []]) (F1:=[]) .nil .nil;refine .jP _ (aoc (a:=a) (c:=0) S1 w s1) ?_;exact oE
 .exact akL srt h1 h2 h3 (Ig.2 hz) hl
def abS:rM prog 195 jg:=akS (e:=3) th th th (λa b=>by kernel_rfl)
variable{g:bA}{vh vc:ah}
def U9:bG prog (.func 175) [.agg ⟨iW g vh vc⟩] [] [] (jU g vh vc) (λb:Nat=>.func (.func 239) #[] #[ptr' b]) (λ_=>[]) (λb=>[dO b 0 (iW g vh vc),aj ai vc g.cells]) (λ_=>True):=by
 refine gB 175 λB w0=>?_;refine go ?_;intro b1;refine go ?_;refine gP b1 ?_;exact gQ b1 trivial
def pM(c:Prop)(f:aM):aM:=⟨λw=>c->f.p w,λa h e=>f.mono a (h e)⟩
variable{B:ae Nat}{w0:Wd}{kl:ae OA}{F:ae aM}{Q:IH->Prop}{f:aM}
def oK{c:Prop}(hc:¬c)(h:R Q B w0 kl (pM c f::F)):R Q B w0 kl F:=fo (pM c f) (λw _ e=>absurd e hc) h
def nM{c:Prop}(hf:f∈F)(h:R Q B w0 kl (pM c f::F)):R Q B w0 kl F:=fo (pM c f) (λw hw _=>hw f hf) h
structure Va where
 v:Value
 e:Int
abbrev zM(y:Va):ah:=.tuple ⟨[y.v,iV y.e]⟩
def PG{S α:Type}(f:S->α->S):∀(xs:ae α) (s:S),kz (λs x=>(f s x,Out.normal)) s xs=(xs.foldl f s,.normal)
 |[],s=>rfl
 |x::xs,s=>by
  show kz (λs x=>(f s x,Out.normal)) (f s x) xs=_;rw[PG f xs];rfl
section
variable {P:Program} {B:ae Nat} {w0:Wd} {kl kl':ae OA} {F:ae aM} {Q:IH->Prop}
def aoe{b:Nat}{cs cs':ae ah}(e:cs=cs')(h:R Q B w0 (pt b (.cells cs')::kl') F)(hk:aB (pt b (.cells cs)) kl kl':=by exact dV):R Q B w0 kl F:=by
 subst e;exact λw s=>h w (s.gz hk)
def sZ{α:Type}{E:Enc α}{v:ah}{xs:ae α}(h:∀a,v=.slice a xs.length xs.length->R Q B w0 kl F)(hk:aB (ap E v xs) kl kl':=by exact dV):R Q B w0 kl F:=λw s=>by
 obtain⟨S,⟨S1,S2,q,_⟩,_⟩:=(s.gz hk).own;obtain⟨a,e⟩:=SY q;exact h a e w s
end
abbrev EH(b n:Nat):ah:=.slice (some ⟨b,0,some 0⟩) n n
def abT(hS:rR g):
 bG prog (.func 97) [.agg ⟨iW g vh vc⟩] [] [] (jU g vh vc) zM (λ_=>[]) (λy=>[pM (y.e=0) (aj (wR ai) y.v (bR g))]) (λy=>y.e=0↔eF g):=by
 refine JW _ (wC 97) λB w0=>?_;refine go ?_;intro b1 b2;refine gC (U7 (g:=g) hS) λe he=>?_;refine aC ?_ ?_<;>intro h1
 .refine go ?_;refine oK (c:=(130:Int)=0) (f:=aj (wR ai) (.slice none 0 0) (bR g)) tf ?_;exact Ef ⟨.slice none 0 0,130⟩ (hv:=rfl) (hp:=⟨(λh=>by cases h),λh=>absurd (he.2 h) h1⟩)
 have hg:=he.1 tf;have hgl:=hg.len;have hsb:=OZ hg;have hsl:=sS g;refine go ?_;intro b4 b5;refine go ?_;refine Za (bM:=[pt b4 (.cells GM),pt b2 (.cells [.slice none 0 0]),pt b1 (.cells (iW g vh vc))]) [] (λ_:Unit=>[]) (λ_=>[pt b5 (.cells [iV (ed g:Int)])]) (λ_=>[]) (λ_=>True) (hx:=?_) (hy:=?_)
 .refine kW rfl ?_ ?_<;>intro h2
  .refine go ?_;rw[show(4:Int)=(ed g:Int)by unfold ed;rw[if_pos h2];rfl];exact Oe () trivial
  .refine go ?_;rw[show(6:Int)=(ed g:Int)by unfold ed;rw[if_neg h2];rfl];exact Oe () trivial
 intro _ _;refine go ?_;refine yu jg (λbm=>?_);refine go ?_;intro b6;refine gC (U9 (g:=g) (vh:=vh) (vc:=vc)) λbs _=>?_;refine go ?_;refine J2 (Z:=Nat) (λ(m:ae ((Int×Int)×ah)) (x:Int×(Int×Int))=>(upd x.2 (iV x.1) m,.normal)) (λm=>[gW jg bm m,pt b6 (.cells [.map (some bm)])]) (λvs m=>m=gu vs) [] _ (λx b8=>[pt b8 (.cells [iV x.2.1,iV x.2.2])]) rfl (λvs s x rest hs _ _=>by rw[hs,Ub]) (U8 (b1:=bs) (vh:=vh) (vc:=vc) hg) AM ?_ ?_ (λ_ _=>trivial)
 .intro vs s x rest b8 lo L B w0 hs hX;dsimp only[List.cons_append,List.nil_append];refine go ?_;refine vD abS x.2 (v:=iV x.1) ?_;refine go ?_;exact lE
 intro r1 xs hxs;subst hxs;rw[PG (λ(m:ae ((Int×Int)×ah)) (x:Int×(Int×Int))=>upd x.2 (iV x.1) m)];dsimp only[List.cons_append,List.nil_append];rw[show(bN g).foldl (λ(m:ae ((Int×Int)×ah)) (x:Int×(Int×Int))=>upd x.2 (iV x.1) m) []=gu (bN g)from rfl];refine gZ (En (b:=bm)) ?_;refine gP b6 ?_;refine go ?_;refine ym g.cells.length ⟨tf,tf,tf⟩ λbl=>?_;rw[show zeros [.slice none 0 0] g.cells.length=List.replicate g.cells.length (.slice none 0 0)from Yx _ _];refine ak1 (nJ ai) (x0:=([]:ae Int)) (λw=>⟨.inl ⟨rfl,rfl,rfl⟩,λ_=>rfl⟩) (h:=?_);refine gC (U9 (g:=g) (vh:=vh) (vc:=vc)) λbs2 _=>?_;refine go ?_;refine gP b4 ?_;refine gP b5 ?_;have hml:(fA.take (ed g)).length=ed g:=by rw[gM];show min (ed g) 6=_;have:=Ex g;omega
 refine fo (aj uC (.slice (some ⟨b4,0,some 0⟩) (ed g) 6) (fA.take (ed g))) (λw h=>amd (h (dO b4 0 GM) (iw _ (fF ..))) (Ex g)) ?_;refine J2 (Z:=Nat) (λ(xss:ae (ae Int)) (x:Int×(Int×Int))=>(xss.set x.1.toNat (oC g x),.normal)) (λxss=>[qD (nJ ai) bl xss,pt b2 (.cells [EH bl g.cells.length])]) (λvs xss=>xss=vs.map (oC g)++List.replicate (g.cells.length - vs.length) []) (List.replicate g.cells.length []) _ (λx b10=>[pt b10 (.cells [iV x.2.1,iV x.2.2])]) tg (λvs s x rest hs hX _=>by
  have h1:=O0 hX;rw[hs,h1.1];have:=aaz (A:=vs.map (oC g)) (n:=g.cells.length) (by rw[bC];exact h1.2.1) (oC g x);rw[bC]at this;rw[jJ,this,ek,fV];rfl) (U8 (b1:=bs2) (vh:=vh) (vc:=vc) hg) AM ?_ ?_ (λ_ _=>trivial)
 .intro vs xss x rest b10 lo L B w0 hs hX;dsimp only[List.cons_append,List.nil_append];obtain⟨hc,hvl,hxm⟩:=O0 hX;have hbx:=hsb x hxm;obtain⟨c,s1,s2⟩:=x;dsimp only at hc hbx;subst hc;have hxk:xss[vs.length]? =some []:=by
   rw[hs,tO tg,bC,tQ,List.getElem?_replicate,if_pos tf]
  have hxl:xss.length=g.cells.length:=by rw[hs];simp;omega
  refine go ?_;refine(cZ rfl rfl (amg (m:=ed g) rfl rfl (Ex g))).h ?_;refine go ?_;refine Er (A:=qD (nJ ai) bl xss) (A':=qD (nJ ai) bl (xss.set vs.length (iH (gu (bN g)) (s1,s2) ((fA.take (ed g)).take 0)))) (congrArg (qD (nJ ai) bl) (by
   apply jr;intro i;rw[xE];by_cases hi:vs.length=i
   .subst hi;rw[if_pos rfl,if_pos tf,hxk];rfl
   .rw[if_neg hi])) ?_
  refine di (λj=>ed g - j) (λj:Nat=>[(47,iV (j:Int))]) (λj=>[qD (nJ ai) bl (xss.set vs.length (iH (gu (bN g)) (s1,s2) ((fA.take (ed g)).take j)))]) (λ_=>[]) (λj=>j<=ed g) 0 (bH _) (body:=?_);intro j hj;refine aC ?_ ?_<;>intro h2
  .refine go ?_;obtain⟨dd,hd⟩:∃dd,(fA.take (ed g))[j]? =some dd:=⟨_,bY tf⟩
   have hdb:=ame dd (Ij (aU hd));have hdv:jW (kP GM (j*2)) 2=some [iV dd.1,iV dd.2]:=amf (j:=j) (d:=dd) (by rw[vZ]at hd;split at hd;exact hd;cases hd)
   have hnr:=amc (gu (bN g)) (s1,s2) ((fA.take (ed g)).take j) dd;rw[<- bU hd]at hnr;have hnl:=OY (gu (bN g)) (s1,s2) ((fA.take (ed g)).take j);have hjm:=Ex g;rw[gM]at hnl;obtain⟨d1,d2⟩:=dd;dsimp only at hdb hdv hnr;refine(YM (o:=0) (j:=j*2) (cs:=GM) rfl rfl rfl (iw _ (iw _ (fF ..))) hdv).h ?_;refine go ?_;intro b12;refine go ?_;refine(cZ rfl rfl (D7 (a:=s1) (b:=d1) rfl rfl tf tf)).h ?_;refine go ?_;refine(cZ rfl rfl (D7 (a:=s2) (b:=d2) rfl rfl tf tf)).h ?_;refine go ?_;refine abD abS (s1+d1,s2+d2) (λv hv hm=>?_) (λhm=>?_)
   .obtain⟨c,rfl,hc⟩:=aay _ _ hv;rw[hv]at hnr;refine go ?_;refine ZW (nJ ai) (b:=bl) (xss:=xss.set vs.length (iH (gu (bN g)) (s1,s2) ((fA.take (ed g)).take j))) (k:=vs.length) (xs:=iH (gu (bN g)) (s1,s2) ((fA.take (ed g)).take j)) DP (h:=λws v KD hv2=>?_);rw[oU]at KD;refine ZY ai v (iH (gu (bN g)) (s1,s2) ((fA.take (ed g)).take j)) (λhz=>?_);refine rJ (o:=0+vs.length*1) (cs:=ws) v (by rw[gI,pY];exact hv2) ?_;refine go ?_;intro b43;refine go ?_;refine ZN (xs:=iH (gu (bN g)) (s1,s2) ((fA.take (ed g)).take j)) ai c () tf (next:=λad=>?_);rw[show iH (gu (bN g)) (s1,s2) ((fA.take (ed g)).take j)++[c]=iH (gu (bN g)) (s1,s2) ((fA.take (ed g)).take (j+1))from hnr.symm];refine go ?_;refine l9 (o:=0+vs.length*1) (cs:=ws) (v:=.slice ad ((iH (gu (bN g)) (s1,s2) ((fA.take (ed g)).take j)).length+1) ((iH (gu (bN g)) (s1,s2) ((fA.take (ed g)).take j)).length+1)) (cs':=ws.set vs.length (.slice ad ((iH (gu (bN g)) (s1,s2) ((fA.take (ed g)).take j)).length+1) ((iH (gu (bN g)) (s1,s2) ((fA.take (ed g)).take j)).length+1))) (by rw[gI,pY]) tf ?_;refine ZZ ai (.slice ad ((iH (gu (bN g)) (s1,s2) ((fA.take (ed g)).take j)).length+1) ((iH (gu (bN g)) (s1,s2) ((fA.take (ed g)).take j)).length+1)) (iH (gu (bN g)) (s1,s2) ((fA.take (ed g)).take (j+1))) (λe=>by rw[hnr]at e;exact absurd e (by show¬(_++[c]=[]);simp)) ?_;refine ZX (nJ ai) (b:=bl) (xss:=xss.set vs.length (iH (gu (bN g)) (s1,s2) ((fA.take (ed g)).take j))) (vs:=ws) (k:=vs.length) (xs:=iH (gu (bN g)) (s1,s2) ((fA.take (ed g)).take (j+1))) (by rw[oU];exact KD) (by rw[oU];omega) (h:=?_);rw[List.set_set];exact eI
   .rw[vH hm]at hnr;refine go ?_;refine Er (A:=qD (nJ ai) bl (xss.set vs.length (iH (gu (bN g)) (s1,s2) ((fA.take (ed g)).take j)))) (A':=qD (nJ ai) bl (xss.set vs.length (iH (gu (bN g)) (s1,s2) ((fA.take (ed g)).take (j+1))))) (congrArg (qD (nJ ai) bl) ((by rw[hnr];exact congrArg (xss.set vs.length) (iE _).symm))) ?_;exact aO (j+1) tf tf
  have hjl:j=ed g:=tf
  subst hjl;refine Er (A:=qD (nJ ai) bl (xss.set vs.length (iH (gu (bN g)) (s1,s2) ((fA.take (ed g)).take (ed g))))) (A':=qD (nJ ai) bl (xss.set vs.length (iH (gu (bN g)) (s1,s2) (fA.take (ed g))))) (congrArg (qD (nJ ai) bl) ((congrArg (λz=>xss.set vs.length (iH (gu (bN g)) (s1,s2) z)) (oQ (Nat.le_of_eq hml))))) ?_;refine go ?_;refine ZW (nJ ai) (b:=bl) (xss:=xss.set vs.length (iH (gu (bN g)) (s1,s2) (fA.take (ed g)))) (k:=vs.length) (xs:=iH (gu (bN g)) (s1,s2) (fA.take (ed g))) DP (h:=λws v KD hv2=>?_);rw[oU]at KD;refine ZY ai v (iH (gu (bN g)) (s1,s2) (fA.take (ed g))) (λhz=>?_);refine rJ (o:=0+vs.length*1) (cs:=ws) v (by rw[gI,pY];exact hv2) ?_;have hn6:=OY (gu (bN g)) (s1,s2) (fA.take (ed g));rw[hml]at hn6;have hjm:=Ex g;refine sZ (E:=ai) (v:=v) (xs:=iH (gu (bN g)) (s1,s2) (fA.take (ed g))) λa hv=>?_;subst hv;refine fD (PE (a:=a) (zs:=iH (gu (bN g)) (s1,s2) (fA.take (ed g))) rfl tf) (next:=λ_ _=>?_);refine aoe (b:=bl) (cs:=ws) (cs':=ws.set vs.length (.slice a (iH (gu (bN g)) (s1,s2) (fA.take (ed g))).length (iH (gu (bN g)) (s1,s2) (fA.take (ed g))).length)) (amh hv2).symm ?_;refine ZZ ai (.slice a (iH (gu (bN g)) (s1,s2) (fA.take (ed g))).length (iH (gu (bN g)) (s1,s2) (fA.take (ed g))).length) (cK (iH (gu (bN g)) (s1,s2) (fA.take (ed g)))) (λe=>hz (lW.1 (by rw[<- Cr,e];rfl))) ?_;refine ZX (nJ ai) (b:=bl) (xss:=xss.set vs.length (iH (gu (bN g)) (s1,s2) (fA.take (ed g)))) (vs:=ws) (k:=vs.length) (xs:=cK (iH (gu (bN g)) (s1,s2) (fA.take (ed g)))) (by rw[oU];exact KD) (by rw[oU];omega) (h:=?_);refine Er (A:=qD (nJ ai) bl ((xss.set vs.length (iH (gu (bN g)) (s1,s2) (fA.take (ed g)))).set vs.length (cK (iH (gu (bN g)) (s1,s2) (fA.take (ed g)))))) (A':=qD (nJ ai) bl (xss.set ((vs.length:Int)).toNat (oC g ((vs.length:Int),s1,s2)))) (congrArg (qD (nJ ai) bl) ((by rw[List.set_set,jJ];rfl))) ?_;refine go ?_;exact Ck () rfl trivial trivial
 intro r2 xs2 aoh;subst aoh;rw[PG (λ(xss:ae (ae Int)) (x:Int×(Int×Int))=>xss.set x.1.toNat (oC g x))];dsimp only[List.cons_append,List.nil_append];rw[show(bN g).foldl (λ(xss:ae (ae Int)) (x:Int×(Int×Int))=>xss.set x.1.toNat (oC g x)) (List.replicate g.cells.length [])=bR g from ami g];refine gZ (ak2 (A:=nJ ai) (E:=wR ai) (b:=bl) (xss:=bR g) (c:=(bR g).length) (λv=>v) rfl (λ_ _=>rfl) (λv xs=>ak3)) ?_;rw[yA];refine go ?_;refine nM (c:=(0:Int)=0) (f:=aj (wR ai) (.slice (some ⟨bl,0,some 0⟩) g.cells.length g.cells.length) (bR g)) tg ?_;exact Ef ⟨.slice (some ⟨bl,0,some 0⟩) g.cells.length g.cells.length,0⟩ (hv:=rfl) (hp:=⟨λ_=>hg,λ_=>rfl⟩)
end Go.Proofs.YtignbinlipkmfaaGreatDoor
namespace Go.Proofs.YtignbinlipkmfaaGreatDoor
open Tryz (prog)
open Go.Ideal Kd
noncomputable def abU:=qd prog 231
def aoi:lF prog 231=some abU:=th
abbrev kG(n:Int):ah:=iV n
def CP:rM prog 3 kG:=akC th
variable{bm:Nat}{aA:ae (Int×ah)}
def aoj:bG prog (.func 241) [.map (some bm)] [] [] [wN kG bm aA] (λb:Nat=>.func (.func 291) #[] #[ptr' b]) (λ_=>[]) (λb=>[dO b 0 [.map (some bm)],wN kG bm aA]) (λ_=>True):=by
 refine gB 241 λB w0=>?_;refine go ?_;intro b1;refine go ?_;refine gP b1 ?_;exact gQ b1 trivial
def aok{b:Nat}:wO prog (λx:Int=>[kG x]) (.func 291) [] [ptr' b] [dO b 0 [.map (some bm)],wN kG bm aA] (λxs=>xs.Perm (aA.map (·.1))):=by
 intro S inv ok step s0 zq y1 y2 F' h0 hok hy;rw[fB,fB,dP];refine gB 291 λB w0=>?_;refine go ?_;refine Zu (b:=bm) (aA:=aA) (bF:=kG) (next:=λr=>?_);refine go ?_;refine di (λy:ae (Int×ah)×S=>aA.length - y.1.length) (λy=>[]) (λy=>Ep kG r bm aA y.1::inv y.2) (λ_=>[]) (λy=>ok (y.1.map (·.1)) y.2/\(∃rest,(y.1++rest).Perm aA)/\∀rest,jG step s0 (y.1.map (·.1)++rest)=jG step y.2 rest) ([],s0) ⟨h0,⟨aA,.refl _⟩,λ_=>rfl⟩ (body:=?_);rintro⟨ig,s⟩ ⟨hos,_,hrun⟩;dsimp only at hos hrun⊢;refine go ?_;refine Zv (b:=bm) (aA:=aA) (ig:=ig) (bF:=kG) (more:=λp rem hp=>?_) (done:=λhp=>?_) amj
 .have hX:(ig.map (·.1)++p.1::rem.map (·.1)).Perm (aA.map (·.1)):=by
   have:=hp.map (·.1);rw[ek,kv]at this;exact this
  have hlen:=hp.length_eq;rw[fV,uS]at hlen;have uI:=hy _ s _ _ hos hX;refine go ?_;refine Zw (bF:=kG) (aA:=aA) (ig:=ig) (p:=p) ?_;exact cI
 .exact kp
structure Vb where
 v:Value
 xs:List Int
variable{fn:Fn}{first captured:ae ah}{F1:ae aM}{X:ae Int->Prop}
def aol(hit:wO prog (λx:Int=>[kG x]) fn first captured F1 X)(hl:∀xs,X xs->xs.length<=1000000):
 bG prog (.func 312) [.slice none 0 0,.func fn ⟨first⟩ ⟨captured⟩] [] [] F1 (λy:Vb=>y.v) (λy=>[ap ai y.v y.xs]) (λ_=>[]) (λy=>X y.xs):=by
 refine JW abp anq λB w0=>?_;refine go ?_;intro b2;refine gK ai ?_;refine Ay (λv:ah=>[pt b2 (.cells [v]),ap ai v ([]:ae Int)]) (.slice none 0 0) (h:=?_);refine J2 (Z:=Nat) (λ(ys:ae Int) (x:Int)=>(ys++[x],Out.normal)) (λys=>[anu ai b2 ys]) (λvs ys=>ys=vs) [] _ (λ_ _=>[]) rfl (λvs s x rest hs hX _=>by rw[hs]) hit CH ?_ ?_ (λ_ _=>trivial)
 .intro vs s x rest z lo L B w0 hs hx;subst hs;dsimp only[List.cons_append,List.nil_append];have hlen:s.length<=1000000:=by have:=hl _ hx;rw[fV,uS]at this;omega
  refine Cj (h:=λv=>?_);refine go ?_;intro b10;refine fJ (xs:=s) ai x () tf (next:=λad=>?_);refine go ?_;refine Ay (λv:ah=>[pt b2 (.cells [v]),ap ai v (s++[x])]) _ (h:=?_);exact lE
 .intro r xs hX;have hrun:∀(ys zs:ae Int),kz (λ(ys:ae Int) (x:Int)=>(ys++[x],Out.normal)) ys zs=(ys++zs,.normal):=by
   exact nc
  rw[hrun,dP];dsimp only[List.cons_append,List.nil_append];refine Cj (h:=λv=>?_);refine go ?_;exact Ef ⟨v,xs⟩ (hv:=rfl) (hp:=hX)
def aom(hit:wO prog (λx:Int=>[kG x]) fn first captured F1 X)(hl:∀xs,X xs->xs.length<=1000000):
 bG prog (.func 280) [.func fn ⟨first⟩ ⟨captured⟩] [] [] F1 (λy:Vb=>y.v) (λy=>[ap ai y.v y.xs]) (λ_=>[]) (λy=>X y.xs):=by
 refine jD abq anr λB w0=>?_;refine gC (aol hit hl) λy hy=>?_;dsimp only[List.cons_append,List.nil_append];refine go ?_;exact gQ y hy
def abV(hit:wO prog (λx:Int=>[kG x]) fn first captured F1 X)(hl:∀xs,X xs->xs.length<=1000000):
 bG prog (.func 231) [.func fn ⟨first⟩ ⟨captured⟩] [] [] F1 (λy:Vb=>y.v) (λy=>[ap ai y.v (cK y.xs)]) (λ_=>[]) (λy=>X y.xs):=by
 refine jD abU aoi λB w0=>?_;refine gC (aom hit hl) λy hy=>?_;obtain⟨v,xs⟩:=y;dsimp only[List.cons_append,List.nil_append]at hy⊢;have hlen:=hl _ hy;refine sZ (E:=ai) (v:=v) (xs:=xs) λa hv=>?_;subst hv;refine gC (PE (a:=a) (zs:=xs) rfl tf) λ_ _=>?_;refine go ?_;exact gQ ⟨.slice a xs.length xs.length,xs⟩ hy
def KE{g:bA}{vh vc:ah}{kf:Int×Int->Int×Bool}(hg:eF g)
 (hk:∀p∈bN g,bG prog fn (first++[jg p.2]) captured [] F1 (λ_:Unit=>.tuple ⟨[iV (kf p.2).1,.bool (kf p.2).2]⟩) (λ_=>[]) (λ_=>[]) (λ_=>True)):
 bG prog (.func 177) [.agg ⟨iW g vh vc⟩,.func fn ⟨first⟩ ⟨captured⟩] [] [] (aj ai vh g.holes::aj ai vc g.cells::F1) (λv:ah=>v) (λv=>[ap (ay ai) v (jT g kf)]) (λ_=>[]) (λ_=>True):=by
 have hgl:=hg.len;have hsl:=sS g;refine JW _ (wC 177) λB w0=>?_;refine go ?_;intro b2 b3;refine go ?_;refine yu kG (λbm=>?_);refine go ?_;intro b5;refine akV ai (b:=bm) (bF:=kG) ?_;refine gC (U9 (g:=g) (vh:=vh) (vc:=vc)) λbs _=>?_;refine go ?_;refine J2 (Z:=Nat) (λ(m:ae (Int×ae Int)) (x:Int×(Int×Int))=>(zC kf m x,.normal)) (λm=>[J8 kG ai bm m,pt b5 (.cells [.map (some bm)]),pt b3 (.cells [.func fn ⟨first⟩ ⟨captured⟩])]) (λvs m=>m=kZ kf vs) [] _ (λx b8=>[pt b8 (.cells [iV x.2.1,iV x.2.2])]) rfl (λvs s x rest hs _ _=>by rw[hs,Kg]) (U8 (b1:=bs) (vh:=vh) (vc:=vc) hg) AM ?_ ?_ (λ_ _=>trivial)
 .intro vs s x rest b8 lo L B w0 hs hX;dsimp only[List.cons_append,List.nil_append];obtain⟨hc,hvl,hxm⟩:=O0 hX;have hkx:=hk x hxm;have hin:=Uc kf vs.length vs rfl;rw[<- hs]at hin;have hst:zC kf s x=cond (kf x.2).2 (upd (kf x.2).1 ((dG (kf x.2).1 s).getD []++[x.1]) s) s:=rfl;rw[hst];obtain⟨c,s1,s2⟩:=x;dsimp only at hc hkx hst⊢;subst hc;rcases hq:kf (s1,s2)with⟨kn,kb⟩
  rw[hq]at hkx;dsimp only at hkx⊢;refine gC hkx λ_ _=>?_;cases kb with
  |false=>
   dsimp only[cond];refine go ?_;exact lE
  |true=>
   dsimp only[cond];have hln:=hin.2 kn;refine go ?_;refine akW (bF:=kG) (E:=ai) (b:=bm) (m:=s) kn (h:=λaA v hkeys hv=>?_);refine Eo (b:=bm) (aA:=aA) CP kn ?_;rw[hv];refine go ?_;intro b30;refine go ?_;refine ZN (xs:=(dG kn s).getD []) ai (vs.length:Int) () tf (next:=λad=>?_);refine go ?_;refine vD (b:=bm) (v:=.slice ad (((dG kn s).getD []).length+1) (((dG kn s).getD []).length+1)) (aA:=aA) CP kn ?_;refine akX (E:=ai) (v:=.slice ad (((dG kn s).getD []).length+1) (((dG kn s).getD []).length+1)) (xs:=(dG kn s).getD []++[(vs.length:Int)]) kn hkeys ?_;refine go ?_;exact lE
 .intro r xs hX;subst hX;rw[PG (zC kf)];dsimp only[List.cons_append,List.nil_append];rw[show(bN g).foldl (zC kf) []=kZ kf (bN g)from rfl];have hin:=Uc kf _ (bN g) rfl;rw[hsl]at hin;have hL:jT g kf=(cK ((kZ kf (bN g)).map (·.1))).map λn=>(dG n (kZ kf (bN g))).getD []:=rfl;generalize hm:kZ kf (bN g)=m at hin hL⊢;refine akY (bF:=kG) (E:=ai) (b:=bm) (m:=m) (λaA hkeys=>?_);have hkl:aA.length=m.length:=by have:=congrArg List.length hkeys;simpa using this
  refine gZ (En (bF:=kG) (b:=bm) (aA:=aA)) ?_;refine gZ (akZ (E:=ai) (aA:=aA) (m:=m) hkeys) ?_;refine gP b5 ?_;refine gC (aoj (bm:=bm) (aA:=aA)) λbk _=>?_;refine gC (abV (aok (b:=bk) (bm:=bm) (aA:=aA)) (λxs h=>by have:=h.length_eq;rw[bC]at this;omega)) λy hy=>?_;obtain⟨vk,ks⟩:=y;dsimp only[List.cons_append,List.nil_append]at hy⊢;have hks:cK ks=cK (m.map (·.1)):=aax (by rw[<- hkeys];exact hy);rw[hks];have hkn:(cK (m.map (·.1))).length=m.length:=by rw[Cr,bC]
  have hmem:∀n∈cK (m.map (·.1)),n∈m.map (·.1):=λn h=>yB.1 h;generalize hK:cK (m.map (·.1))=ns at hkn hL hmem⊢;refine gZ (gD (E:=ai) (v:=vk) (xs:=ns)) ?_;refine gF ai vk ns λa c e=>?_;subst e;refine go ?_;refine gK (ay ai) ?_;refine di (λy:Nat×ah=>ns.length - y.1) (λy=>[(36,iV (y.1:Int)),(4,y.2)]) (λy=>[ap (ay ai) y.2 ((ns.take y.1).map λn=>(dG n m).getD [])]) (λ_=>[]) (λy=>y.1<=ns.length) (0,.slice none 0 0) (bH _) (hk:=tj) (body:=?_);rintro⟨k,v4⟩ hk2;dsimp only at hk2⊢;refine aC ?_ ?_<;>intro h1
  .refine go ?_;intro _ _ n hn;obtain⟨v,hv⟩:=Ke (a:=n) (l:=aA) (by rw[hkeys];exact hmem n (aU hn));obtain⟨xs,hxs⟩:=Ke (a:=n) (l:=m) (hmem n (aU hn));have hlv:jX false (.slice none 0 0) n aA=v:=by unfold jX;rw[hv];rfl
   have htk:(ns.take (k+1)).map (λn=>(dG n m).getD [])=(ns.take k).map (λn=>(dG n m).getD [])++[xs]:=by
    rw[bU hn,ek,ww,hxs];rfl
   have hxl:((ns.take k).map (λn=>(dG n m).getD [])).length=k:=y4
   refine fo (aj ai v xs) (λw hw=>hw (ZQ ai aA m) tg n v xs hv hxs) ?_;refine gF ai v xs λa2 c2 e2=>?_;subst e2;refine go ?_;refine Tt (bF:=kG) (b:=bm) (aA:=aA) CP n ?_;rw[hlv];refine go ?_;intro b44;refine go ?_;refine fJ (xs:=(ns.take k).map λn=>(dG n m).getD []) (ay ai) xs (.slice a2 xs.length c2) (by rw[hxl];omega) (next:=λad=>?_);rw[<- htk];refine go ?_;exact aO (k+1,.slice ad (((ns.take k).map λn=>(dG n m).getD []).length+1) (((ns.take k).map λn=>(dG n m).getD []).length+1)) (by show ns.length - (k+1)<ns.length - k;omega) tE
  have hke:k=ns.length:=tf
  subst hke;rw[bP,<- hL];refine go ?_;exact Ef v4 (hv:=rfl) (hp:=trivial)
end Go.Proofs.YtignbinlipkmfaaGreatDoor
namespace Go.Proofs.YtignbinlipkmfaaGreatDoor
open Tryz (prog)
open Go.Ideal Kd
abbrev KF(fn:Fn)(first captured:ae ah)(F1:ae aM)(g:bA)(kf:Int×Int->Int×Bool):Prop:=
 ∀p∈bN g,bG prog fn (first++[jg p.2]) captured [] F1 (λ_:Unit=>.tuple ⟨[iV (kf p.2).1,.bool (kf p.2).2]⟩) (λ_=>[]) (λ_=>[]) (λ_=>True)
variable{g:bA}
def aoo:KF (.func 178) [] [] [] g (λs=>(s.2,true)):=λp hp=>by
 refine gB 178 λB w0=>?_;refine go ?_;intro b1;exact fQ
def aop:KF (.func 179) [] [] [] g (λs=>(s.1,true)):=λp hp=>by
 refine gB 179 λB w0=>?_;refine go ?_;intro b1;exact fQ
def aoq(hg:eF g):KF (.func 242) [] [] [] g (λs=>(s.1+s.2,true)):=λp hp=>by
 have hb:=OZ hg p hp;obtain⟨c,s1,s2⟩:=p;dsimp only at hb⊢;refine gB 242 λB w0=>?_;refine go ?_;intro b1;exact fQ
def aor(hg:eF g):KF (.func 243) [] [] [] g (λs=>(0,decide (s.1=s.2))):=λp hp=>by
 have hb:=OZ hg p hp;refine gB 243 λB w0=>?_;refine go ?_;intro b1;exact fQ
variable{vh vc:ah}
def aos{b:Nat}(hg:eF g):KF (.func 244) [] [ptr' b] [dO b 0 (iW g vh vc)] g (λs=>(0,decide (s.1+s.2=g.w - 1))):=λp hp=>by
 have hb:=OZ hg p hp;obtain⟨c,s1,s2⟩:=p;dsimp only at hb⊢;have hw:=hg.make.wi;refine gB 244 λB w0=>?_;refine go ?_;intro b1;exact fQ
def aot(hg:eF g):
 bG prog (.func 180) [.agg ⟨iW g vh vc⟩] [] [] (jU g vh vc) (λv:ah=>v) (λv=>[ap (ay ai) v (mP g)]) (λ_=>[]) (λ_=>True):=by
 refine gB 180 λB w0=>?_;refine go ?_;intro b1;refine gP b1 ?_;refine aC ?_ ?_<;>intro h1
 .refine gC (KE (kf:=λs=>(s.1+s.2,true)) (vh:=vh) (vc:=vc) hg (aoq hg)) λv _=>?_;refine go ?_;exact gQ v trivial (hk:=by unfold mP;rw[if_pos h1];exact aH.all _)
 refine aC ?_ ?_<;>intro h2
 .refine go ?_;refine gK (ay ai) ?_;exact gQ (.slice none 0 0) trivial (hk:=by unfold mP;rw[if_neg h1,if_neg h2];exact aH.all _)
 have h2:g.w=g.h:=iX.1 h2;refine gC (KE (kf:=λs=>(0,decide (s.1=s.2))) (vh:=vh) (vc:=vc) hg (aor hg)) λva _=>?_;refine gC (KE (kf:=λs=>(0,decide (s.1+s.2=g.w - 1))) (vh:=vh) (vc:=vc) hg (aos (vh:=vh) (vc:=vc) (b:=b1) hg)) λvb _=>?_;have hA:=O1 hg (λs=>(0,decide (s.1=s.2)));have hB:=O1 hg (λs=>(0,decide (s.1+s.2=g.w - 1)));have hD:mP g=lQ (jT g (λs=>(0,decide (s.1=s.2)))) (jT g (λs=>(0,decide (s.1+s.2=g.w - 1)))):=by unfold mP;rw[if_neg h1,if_pos h2]
 generalize jT g (λs=>(0,decide (s.1=s.2)))=la at hA hD⊢;generalize jT g (λs=>(0,decide (s.1+s.2=g.w - 1)))=lb at hB hD⊢;have hF:=Ud hA.2 hB.2;refine gZ (gD (E:=ay ai) (v:=vb) (xs:=lb)) ?_;refine gF (ay ai) vb lb λa c e=>?_;subst e;refine go ?_;refine di (λy:Nat×ah=>lb.length - y.1) (λy=>[(22,iV (y.1:Int)),(3,y.2)]) (λy=>[ap (ay ai) y.2 (lQ la (lb.take y.1))]) (λ_=>[]) (λy=>y.1<=lb.length) (0,va) (bH _) (hk:=tj) (body:=?_);rintro⟨k,v3⟩ hk2;dsimp only at hk2⊢;have Vd:=hF k;refine aC ?_ ?_<;>intro h3
 .refine gX (ay ai) (xs:=lb) λ_ _ ln (vl:ah) hl=>?_;have hs:=aaB (a:=la) hl;have hll:=hB.2 ln (aU hl);generalize lQ la (lb.take k)=acc at Vd hs⊢;refine sZ (E:=ay ai) (v:=v3) (xs:=acc) λa3 e3=>?_;subst e3;refine gF ai vl ln λa4 c4 e4=>?_;subst e4;cases acc with
  |nil=>
   have hs2:lQ la (lb.take (k+1))=[]++[ln]:=hs;refine go ?_;intro b39;refine go ?_;refine fJ (xs:=([]:ae (ae Int))) (ay ai) ln (.slice a4 ln.length c4) tg (next:=λad=>?_);rw[<- hs2];refine go ?_;exact aO (k+1,.slice ad (([]:ae (ae Int)).length+1) (([]:ae (ae Int)).length+1)) AN tE
  |cons a0 acc=>
   have ha0:=Vd.2 a0 (fF ..);refine go ?_;refine Ow ai 0 a0 rfl (next:=λ_ _ u=>?_);refine gC (yI (xs:=a0) (ys:=ln) tf) λ_ _=>?_;by_cases h4:a0=ln
   rotate_left
   .rw[aW h4];have hs2:lQ la (lb.take (k+1))=(a0::acc)++[ln]:=by rw[hs];unfold wT;rw[if_neg (show¬((a0::acc).head? =some ln)from λe=>h4 (Option.some.inj e))]
    refine go ?_;intro b39;refine go ?_;refine fJ (xs:=a0::acc) (ay ai) ln (.slice a4 ln.length c4) (by have:=Vd.1;omega) (next:=λad=>?_);rw[<- hs2];refine go ?_;exact aO (k+1,.slice ad ((a0::acc).length+1) ((a0::acc).length+1)) AN tE
   .rw[dQ h4];have hs2:lQ la (lb.take (k+1))=a0::acc:=by rw[hs];unfold wT;rw[if_pos (by rw[h4];rfl)]
    rw[show ap (ay ai) (Value.slice a3 (a0::acc).length (a0::acc).length) (a0::acc)=ap (ay ai) (Value.slice a3 (a0::acc).length (a0::acc).length) (lQ la (lb.take (k+1)))from congrArg _ hs2.symm];refine go ?_;exact aO (k+1,.slice a3 (a0::acc).length (a0::acc).length) AN tE
 have hke:k=lb.length:=tf
 subst hke;rw[bP,<- hD];refine go ?_;exact gQ v3 trivial
end Go.Proofs.YtignbinlipkmfaaGreatDoor
namespace Go.Proofs.YtignbinlipkmfaaGreatDoor
open Tryz (prog)
open Go.Ideal Kd
def aov{c:Nat}:fC prog 173 [.slice none 0 c] [] (λ_:Unit=>.slice none 0 0) (λ_=>True):=by
 refine jD Pz UZ λB w0=>?_;refine go ?_;refine(cZ rfl rfl (J3 (e:=3) th rfl)).h ?_;exact fQ
def aow{v:ah}{xs:ae Int}(hl:xs.length<=4096):bG prog (.func 173) [v] [] [] [aj ai v xs,Ox v xs] (λv':ah=>v') (λv'=>[ap ai v' xs]) (λ_=>[]) (λ_=>True):=by
 intro B w s;by_cases hx:xs=[]
 .have hv:v=.slice none 0 0:=s.facts (Ox v xs) (iw _ (fF ..)) hx;subst hx hv;refine .jP _ (aov (c:=0) B w ⟨s.agree,s.le,s.fZ,s.own,λf hf=>(by cases hf)⟩) ?_;rintro r pm h' ⟨hp,w',y,e1,st,e2,_⟩;obtain⟨S,q1,q2,q3⟩:=st.own;exact⟨hp,w',.slice none 0 0,e1,⟨st.agree,st.le,st.fZ,⟨S,⟨[],S,.inl ⟨rfl,rfl,rfl⟩,q1,rfl⟩,q2,q3⟩,st.facts⟩,e2,trivial⟩
 .obtain⟨aD,h1,h2⟩:=ZB (s.facts (aj ai v xs) (fF ..));have hlen:aD.length=xs.length:=by rw[<- h1,bC]
  refine .jP _ (abP (v:=v) (aD:=aD) tf B w ⟨s.agree,s.le,s.fZ,s.own,λf hf=>by rw[bS.1 hf];exact h2⟩) ?_;rintro r pm h' ⟨hp,w',y,e1,st,e2,_⟩;subst h1;exact⟨hp,w',y,e1,st.Z4 (by rw[hlen];exact Ig.2 hx) (λp hp f hf=>by cases hf),e2,trivial⟩
abbrev PI(g:bA)(k:Int)(y:Va):ae aM:=[pM (y.e=0) (aj (ay ai) y.v (dL g k))]
def aox{g:bA}{vh vc:ah}{k:Int}(hS:rR g):
 bG prog (.func 98) [.agg ⟨iW g vh vc⟩,iV k] [] [] (jU g vh vc) zM (λ_=>[]) (λy=>PI g k y) (λy=>y.e=0↔eF g/\0<=k/\k<=7):=by
 refine gB 98 λB w0=>?_;refine go ?_;intro b2;refine gP b2 ?_;refine gC (abT (g:=g) (vh:=vh) (vc:=vc) hS) λy hy=>?_;obtain⟨vn,e⟩:=y;dsimp only at hy⊢;refine aC ?_ ?_<;>intro h1
 .exact hU
 have he:e=0:=iX.1 h1;subst he;have hg:=hy.1 rfl;have hgl:=hg.len;have hnl:=yA g;have hnm:=Kh (g:=g);refine fo (aj (wR ai) vn (bR g)) (λw hw=>hw (pM ((0:Int)=0) (aj (wR ai) vn (bR g))) tg rfl) ?_;refine fo (aj (ay ai) vn (bR g)) (λw hw=>Z0 (hw (aj (wR ai) vn (bR g)) tg)) ?_;refine gF (ay ai) vn (bR g) λan cn en=>?_;subst en;refine aC (λhk=>?_) (λhk0=>?_)
 .subst hk;have hf:dL g 0=mh g.cells.length:=by simp[dL]
  refine go ?_;refine gK (ay ai) ?_;refine di (λy:Nat×ah=>g.cells.length - y.1) (λy=>[(31,iV (y.1:Int)),(4,y.2)]) (λy=>[ap (ay ai) y.2 (mh y.1)]) (λ_=>[]) (λy=>y.1<=g.cells.length) (0,.slice none 0 0) (bH _) (hk:=tj) (body:=?_);rintro⟨i,v4⟩ hi;dsimp only at hi⊢;have hil:=O3 i;refine aC ?_ ?_<;>intro h2
  .refine go ?_;intro A9 CQ;refine uy (A:=pt A9 (.cells [iV (i:Int)])) (fs:=[aj ai (.slice (some ⟨A9,0,some 0⟩) 1 1) [(i:Int)]]) (zm (b:=A9) (f:=0) (c:=1) (xs:=[(i:Int)])) (h:=?_);refine go ?_;refine fJ (xs:=mh i) (ay ai) [(i:Int)] (.slice (some ⟨A9,0,some 0⟩) 1 1) tf (next:=λad=>?_);rw[<- aaC];refine go ?_;exact aO (i+1,.slice ad ((mh i).length+1) ((mh i).length+1)) xb tI
  have hie:i=g.cells.length:=tf
  subst hie;refine gZ (gD (E:=ay ai) (v:=v4) (xs:=mh g.cells.length)) ?_;refine go ?_;refine nM (c:=(0:Int)=0) (f:=aj (ay ai) v4 (dL g 0)) tD ?_;exact lA
 refine aC (λhk=>?_) (λhk1=>?_)
 .subst hk;have hf:dL g 1=jT g (λs=>(s.2,true)):=by simp[dL]
  refine gC (KE (kf:=λs=>(s.2,true)) (vh:=vh) (vc:=vc) hg aoo) λv4 _=>?_;refine gZ (gD (E:=ay ai) (v:=v4) (xs:=jT g (λs=>(s.2,true)))) ?_;refine go ?_;refine nM (c:=(0:Int)=0) (f:=aj (ay ai) v4 (dL g 1)) tD ?_;exact gQ ⟨v4,0⟩ ⟨λ_=>⟨hg,tf,tf⟩,λ_=>rfl⟩
 refine aC (λhk=>?_) (λhk2=>?_)
 .subst hk;have hf:dL g 2=jT g (λs=>(s.1,true)):=by simp[dL]
  refine gC (KE (kf:=λs=>(s.1,true)) (vh:=vh) (vc:=vc) hg aop) λv4 _=>?_;refine gZ (gD (E:=ay ai) (v:=v4) (xs:=jT g (λs=>(s.1,true)))) ?_;refine go ?_;refine nM (c:=(0:Int)=0) (f:=aj (ay ai) v4 (dL g 2)) tD ?_;exact gQ ⟨v4,0⟩ ⟨λ_=>⟨hg,tf,tf⟩,λ_=>rfl⟩
 refine aC (λhk=>?_) (λhk3=>?_)
 .subst hk;have hf:dL g 3=mP g:=by simp[dL]
  refine gC (aot (vh:=vh) (vc:=vc) hg) λv4 _=>?_;refine gZ (gD (E:=ay ai) (v:=v4) (xs:=mP g)) ?_;refine go ?_;refine nM (c:=(0:Int)=0) (f:=aj (ay ai) v4 (dL g 3)) tD ?_;exact gQ ⟨v4,0⟩ ⟨λ_=>⟨hg,tf,tf⟩,λ_=>rfl⟩
 refine aC (λhk=>?_) (λhk4=>?_)
 .subst hk;have hf:dL g 4=bR g:=by simp[dL]
  exact fc
 refine aC (λhk=>?_) (λhk5=>?_)
 .subst hk;have hf:dL g 5=mQ (bR g):=by simp[dL]
  generalize bR g=aR at hnl hnm hf⊢;refine go ?_;refine gK (ay ai) ?_;refine di (λy:Nat×ah=>aR.length - y.1) (λy=>[(59,iV (y.1:Int)),(4,y.2)]) (λy=>[ap (ay ai) y.2 (mQ (aR.take y.1))]) (λ_=>[]) (λy=>y.1<=aR.length) (0,.slice none 0 0) (bH _) (hk:=tj) (body:=?_);rintro⟨i,v4⟩ hi;dsimp only at hi⊢;have hil:(mQ (aR.take i)).length=i:=by rw[Ue,gM];omega
  refine aC ?_ ?_<;>intro h2
  .refine gX (wR ai) (xs:=aR) λ_ _ ln (vl:ah) hl=>?_;have hll:=hnm ln (aU hl);refine gC (aow (v:=vl) (xs:=ln) tf) λvc2 _=>?_;refine go ?_;intro b67;refine go ?_;refine fJ (xs:=ln) ai (i:Int) () tf (next:=λad=>?_);refine go ?_;have hl1:ln.length+1=(ln++[(i:Int)]).length:=by simp
   rw[hl1];refine fD (PE (a:=ad) (zs:=ln++[(i:Int)]) rfl tx) (next:=λ_ _=>?_);have hz0:cK (ln++[(i:Int)])≠[]:=λe=>by have:=Cr (ln++[(i:Int)]);rw[e]at this;simp at this
   have hfs:=aaD hl;generalize hzz:cK (ln++[(i:Int)])=zs at hfs⊢;refine gZ (gD (E:=ai) (v:=.slice ad (ln++[(i:Int)]).length (ln++[(i:Int)]).length) (xs:=zs)) ?_;refine go ?_;intro b73;refine go ?_;refine fJ (xs:=mQ (aR.take i)) (ay ai) zs (.slice ad (ln++[(i:Int)]).length (ln++[(i:Int)]).length) tf (next:=λvM=>?_);rw[<- hfs];refine go ?_;exact aO (i+1,.slice vM ((mQ (aR.take i)).length+1) ((mQ (aR.take i)).length+1)) CI tI
  have hie:i=aR.length:=tf
  subst hie;rw[bP];refine gZ (gD (E:=ay ai) (v:=v4) (xs:=mQ aR)) ?_;refine go ?_;refine nM (c:=(0:Int)=0) (f:=aj (ay ai) v4 (dL g 5)) tD ?_;exact lA
 refine aC (λhk=>?_) (λhk6=>?_)
 .subst hk;have hf:dL g 6=jk (bR g):=by simp[dL]
  generalize bR g=aR at hnl hnm hf⊢;have h6:=O4 hnm;refine go ?_;refine gK (ay ai) ?_;refine di (λy:Nat×ah=>aR.length - y.1) (λy=>[(80,iV (y.1:Int)),(4,y.2)]) (λy=>[ap (ay ai) y.2 (jk (aR.take y.1))]) (λ_=>[]) (λy=>y.1<=aR.length) (0,.slice none 0 0) (bH _) (hk:=tj) (body:=?_);rintro⟨i,v4⟩ hi;dsimp only at hi⊢;have hil:=h6 i hi;refine aC ?_ ?_<;>intro h2
  .refine gX (ay ai) (xs:=aR) λ_ _ ln (vl:ah) hl=>?_;have hll:=hnm ln (aU hl);have hfs:=Ug hl;refine gF ai vl ln λa4 c4 e4=>?_;subst e4;refine go ?_;refine di (λy:Nat×ah=>ln.length - y.1) (λy=>[(87,iV (y.1:Int)),(4,y.2)]) (λy=>[ap (ay ai) y.2 (jk (aR.take i)++ko i (ln.take y.1))]) (λ_=>[]) (λy=>y.1<=ln.length) (0,v4) (bH _) (hk:=by rw[show jk (aR.take i)++ko i (ln.take 0)=jk (aR.take i)from iE _];repeat (first|exact aH.nil|(apply aH.cons;(focus (repeat (first|exact aB.here|apply aB.there)))))) (body:=?_);rintro⟨j,v5⟩ hj;dsimp only at hj⊢;have hpl:=Uf i (ln.take j);rw[gM]at hpl;have hal:(jk (aR.take i)++ko i (ln.take j)).length<=2000:=by rw[fV];omega
   refine aC ?_ ?_<;>intro h3
   .refine go ?_;intro _ _ x hx;have hps:=aaE (i:=i) hx;refine aC ?_ ?_<;>intro h4
    .have EI:jk (aR.take i)++ko i (ln.take (j+1))=(jk (aR.take i)++ko i (ln.take j))++[[(i:Int),x]]:=by rw[hps,if_pos tf,iO]
     refine go ?_;intro Ba b98;refine uy (A:=pt Ba (.cells [iV (i:Int),iV x])) (fs:=[aj ai (.slice (some ⟨Ba,0,some 0⟩) 2 2) [(i:Int),x]]) (zm (b:=Ba) (f:=0) (c:=2) (xs:=[(i:Int),x])) (h:=?_);refine go ?_;refine fJ (xs:=jk (aR.take i)++ko i (ln.take j)) (ay ai) [(i:Int),x] (.slice (some ⟨Ba,0,some 0⟩) 2 2) tf (next:=λvM=>?_);rw[<- EI];refine go ?_;exact aO (j+1,.slice vM ((jk (aR.take i)++ko i (ln.take j)).length+1) ((jk (aR.take i)++ko i (ln.take j)).length+1)) CM tM
    .have EI:jk (aR.take i)++ko i (ln.take (j+1))=jk (aR.take i)++ko i (ln.take j):=by rw[hps,if_neg tf,iE]
     exact me
   have j5:j=ln.length:=tf
   subst j5;rw[bP,<- hfs];refine go ?_;exact aO (i+1,v5) CI tI
  have hie:i=aR.length:=tf
  subst hie;rw[bP];refine gZ (gD (E:=ay ai) (v:=v4) (xs:=jk aR)) ?_;refine go ?_;refine nM (c:=(0:Int)=0) (f:=aj (ay ai) v4 (dL g 6)) tD ?_;exact lA
 refine aC (λhk=>?_) (λhk7=>?_)
 .subst hk;have hf:dL g 7=[upTo' g.cells.length]:=by simp[dL]
  refine go ?_;refine gK ai ?_;refine di (λy:Nat×ah=>g.cells.length - y.1) (λy=>[(107,iV (y.1:Int)),(15,y.2)]) (λy=>[ap ai y.2 (upTo' y.1)]) (λ_=>[]) (λy=>y.1<=g.cells.length) (0,.slice none 0 0) (bH _) (hk:=tj) (body:=?_);rintro⟨i,v15⟩ hi;dsimp only at hi⊢;have hil:=jH i;refine aC ?_ ?_<;>intro h2
  .refine go ?_;intro awK;exact cw
  have hie:i=g.cells.length:=tf
  subst hie;refine gZ (gD (E:=ai) (v:=v15) (xs:=upTo' g.cells.length)) ?_;refine gF ai v15 (upTo' g.cells.length) λa4 c4 e4=>?_;subst e4;refine go ?_;intro PK;refine gP PK ?_;refine fo (aj (ay ai) (EH PK 1) [upTo' g.cells.length]) (λw hw=>Y7 (v:=.slice a4 (upTo' g.cells.length).length c4) (hw _ tg) (hw _ tg)) ?_;refine go ?_;refine nM (c:=(0:Int)=0) (f:=aj (ay ai) (EH PK 1) (dL g 7)) tD ?_;exact gQ ⟨EH PK 1,0⟩ ⟨λ_=>⟨hg,tf,tf⟩,λ_=>rfl⟩
 refine go ?_;refine oK (c:=(1:Int)=0) (f:=aj (ay ai) (.slice none 0 0) (dL g k)) tf ?_;exact gQ ⟨.slice none 0 0,1⟩ ⟨(λh=>by cases h),(λh=>by exfalso;obtain⟨_,q1,q2⟩:=h;omega)⟩
abbrev PL(g:bA)(rs:ae (ae Int))(y:Va):ae aM:=[pM (y.e=0) (aj (ay ai) y.v (eH g rs))]
def abW{g:bA}{vh vc vr:ah}{rs:ae (ae Int)}(hS:rR g)(hrl:rs.length<2^63)(hrs:∀ps∈rs,ps.length<2^63):
 bG prog (.func 99) [.agg ⟨iW g vh vc⟩,vr] [] [] (aj (ay ai) vr rs::jU g vh vc) zM (λ_=>[]) (λy=>PL g rs y) (λy=>y.e=0↔eF g/\wU g rs):=by
 refine gB 99 λB w0=>?_;refine gF (ay ai) vr rs λar cr er=>?_;subst er;refine go ?_;intro b2;refine gP b2 ?_;refine gC (U7 (g:=g) hS) λe he=>?_;refine gH ?_ ?_<;>intro h1
 rotate_left
 .exact gb
 have hg:=he.1 tf;have hgl:=hg.len;have nY:g.cells.Pairwise (·<·):=x7
 refine aC ?_ ?_<;>intro h2
 .exact fh
 refine go ?_;refine gK (ay ai) ?_;refine di (λy:Nat×ah=>rs.length - y.1) (λy=>[(24,iV (y.1:Int)),(4,y.2)]) (λy=>[ap (ay ai) y.2 (eH g (rs.take y.1))]) (λ_=>[]) (λy=>y.1<=rs.length/\∀ps∈rs.take y.1,Cz g ps) (0,.slice none 0 0) ⟨bH _,λps h=>by cases h⟩ (hk:=tj) (body:=?_);rintro⟨k,v4⟩ ⟨hk,hall⟩;dsimp only at hk hall⊢;have hkl:(eH g (rs.take k)).length=k:=by unfold eH;rw[bC,gM];omega
 refine aC ?_ ?_<;>intro h3
 .refine gX (ay ai) (xs:=rs) λ_ _ ps (vp:ah) hps=>?_;have hpm:=aU hps;have hpl:=hrs ps hpm;have htk:=bU hps;refine gF ai vp ps λa4 c4 e4=>?_;subst e4;refine go ?_;refine yu kG (λbm=>?_);refine go ?_;refine gK ai ?_;refine di (λy:Nat×ah=>ps.length - y.1) (λy=>[(31,iV (y.1:Int)),(8,y.2)]) (λy=>[ap ai y.2 (fH g (ps.take y.1)),gW kG bm (Cy (fH g (ps.take y.1)))]) (λ_=>[]) (λy=>y.1<=ps.length/\(∀p∈ps.take y.1,p∈g.cells)/\(fH g (ps.take y.1)).Nodup) (0,.slice none 0 0) ⟨bH _,(λp h=>by cases h),xH⟩ (hk:=tj) (body:=?_);rintro⟨j,v8⟩ ⟨hj,hmem,hnd⟩;dsimp only at hj hmem hnd⊢;have hjl:(fH g (ps.take j)).length=j:=by unfold fH;rw[bC,gM];omega
  have hj2:j<=256:=CN
  refine aC ?_ ?_<;>intro h4
  .refine go ?_;intro _ _ x hx;have htx:=bU hx;refine gC (abO (xs:=g.cells) (z:=x) tf (nY.imp λh=>Int.le_of_lt h)) λy hy=>?_;have hym:=hy.mem nY;obtain⟨c,ok⟩:=y;dsimp only at hym⊢;cases ok with
   |false=>
    refine go ?_;refine oK (c:=(130:Int)=0) (f:=aj (ay ai) (.slice none 0 0) (eH g rs)) tf ?_;exact gQ ⟨.slice none 0 0,130⟩ ⟨(λh=>by cases h),λh=>by
     have:=hym.2 ((h.2.all ps hpm).mem x (aU hx));cases this⟩
   |true=>
    have hxm:=hym.1 rfl;have zz:g.cells[c]? =some x:=hy.2.2.2.1 rfl;have hpos:=O5 nY zz;have hr1:fH g (ps.take (j+1))=fH g (ps.take j)++[(c:Int)]:=CT
    refine go ?_;refine Eo (bF:=kG) (b:=bm) (aA:=Cy (fH g (ps.take j))) CP (c:Int) ?_;rw[aml];refine aC ?_ ?_<;>intro h5
    .exact cW
    .refine go ?_;refine vD (bF:=kG) (b:=bm) (v:=.bool true) (aA:=Cy (fH g (ps.take j))) CP (c:Int) ?_;rw[<- aaF,<- hr1];exact cN
  exact cA
 have hke:k=rs.length:=tf
 subst hke;rw[bP]at hall⊢;refine gZ (gD (E:=ay ai) (v:=v4) (xs:=eH g rs)) ?_;refine go ?_;refine nM (c:=(0:Int)=0) (f:=aj (ay ai) v4 (eH g rs)) tg ?_;exact gQ ⟨v4,0⟩ ⟨λ_=>⟨hg,tf,hall⟩,λ_=>rfl⟩
