/- Part. -/
import Derived.Test.YtoilpafpgndilaaGreatShelf
import Derived.Test.YtoilpafpgndilaaGreatLibAF
set_option linter.all false
set_option maxRecDepth 10000
set_option maxHeartbeats 4000000
namespace Go.Proofs.YtoilpafpgndilaaGreat
open Tryz (prog)
open Go.Ideal
noncomputable def Og:=uE prog 126
def VE:mO prog 126=some Og:=Ax
def srt:MW prog 126:=λblk off cap zs w h1 h2 h3=>Any.slices_Sort_int Tryz.lays189 blk off cap zs w h1 h2 h3
open Go.Ideal Kd
noncomputable def Oh:=uE prog 52
def VF:mO prog 52=some Oh:=Ax
noncomputable def Oi:=uE prog 208
def afw:mO prog 208=some Oi:=Ax
variable{x:Int}
def afx:dD prog 106 [iV x] [] (.bool false):=by
 refine gB 106 λB w0=>?_;refine acM ?_;rw[aR (λh=>h rfl)];rfl
def afy:dD prog 346 [iV x] [] (.bool false):=by
 refine gB 346 λB w0=>?_;refine acM ?_;rw[aR (λh=>h rfl)];rfl
def afz{y:Int}:dD prog 251 [iV x,iV y] [] (.bool (decide (x<y))):=by
 refine gB 251 λB w0=>?_;refine gC (afx (x:=x)) λ_ _=>?_;exact afN
def Oj(xs:kI Int)(z:Int)(y:Nat×Bool):Prop:=y.1<=xs.length/\(∀(j:Nat) x,j<y.1->xs[j]? =some x->x<z)/\(∀(j:Nat) x,y.1<=j->xs[j]? =some x->z<=x)/\(y.2=true↔xs[y.1]? =some z)
variable{xs:kI Int}{z:Int}
def Oj.mem{y:Nat×Bool}(h:Oj xs z y)(hs:xs.Pairwise (·<·)):y.2=true↔z∈xs:=by
 obtain⟨h1,h2,h3,h4⟩:=h;rw[h4];refine⟨λh=>aZ h,λh=>?_⟩;obtain⟨j,hj⟩:=uy.1 h;have hjl:=(bq.1 hj)
 rcases PT j y.1 with h5|h5|h5
 .have:=h2 j z h5 hj;omega
 .rw[<- h5];exact hj
 .have hyl:y.1<xs.length:=by have:=hjl.1;omega
  have hy:xs[y.1]? =some xs[y.1]:=bP hyl;have h6:=h3 y.1 _ (bT _) hy;have h7:=wT.1 hs y.1 j hyl hjl.1 h5;rw[hjl.2]at h7;omega
variable{v:vI}
def VG(hl:xs.length<4611686018427387904)(hs:xs.Pairwise (·<=·)):
 fC prog 307 [v,iV z] [ai ae v xs] (λy:Nat×Bool=>.tuple ⟨[iV (y.1:Int),.bool y.2]⟩) (Oj xs z):=by
 refine gB 307 λB w0=>?_;refine gL (λy:Nat×Nat=>y.2 - y.1) (λy=>[(7,iV (y.1:Int)),(8,iV (y.2:Int))]) (λy=>y.1<=y.2/\y.2<=xs.length/\(∀(j:Nat) x,j<y.1->xs[j]? =some x->x<z)/\(∀(j:Nat) x,y.2<=j->xs[j]? =some x->z<=x)) (0,xs.length) ⟨bR _,bT _,λj x hj=>by omega,λj x hj hx=>by have:=(bq.1 hx).1;omega⟩ ?_;rintro⟨a,b⟩ ⟨hab,hb,hlo,hhi⟩;dsimp only at hab hb hlo hhi⊢;refine gIf ?_ ?_<;>intro h1
 .have LD:a<=(a+b)>>>1/\(a+b)>>>1<b:=by
   rw[anF];omega
  generalize hm:(a+b)>>>1=m at LD;refine go ?_;rw[show(a:Int)+(b:Int)=((a+b:Nat):Int)by omega];refine(fA rfl rfl (CR (k:=.u64) (m:=((a+b:Nat):Int)) (by kernel_rfl:prog.underlying 3=some (.int .i64)) Ax rfl (adi z7))).h ?_;refine(fA rfl rfl (adj (a:=a+b) (b:=1) rfl rfl z7)).h ?_;rw[hm];refine(fA rfl rfl (CR (k:=.i64) (m:=(m:Int)) (by kernel_rfl:prog.underlying 180=some (.int .u64)) Ax rfl (wrapN z7))).h ?_;refine go ?_;intro _ _ x hx;refine gC (afz (x:=x) (y:=z)) λ_ _=>?_;refine go ?_;have hle:∀(i j:Nat) u v,i<=j->xs[i]? =some u->xs[j]? =some v->u<=v:=by
   intro i j u v hij hu hv;by_cases e:i=j
   .subst e;rw[hu]at hv;injection hv with hv;omega
   .exact wT.1 hs i j (bq.1 hu).1 (bq.1 hv).1 z7|>λh=>by
     rw[(bq.1 hu).2,(bq.1 hv).2]at h;exact h
  refine aA rfl ?_ ?_<;>intro h2
  .refine go ?_;refine aN (m+1,b) (by show b - (m+1)<b - a;omega) ⟨by show m+1<=b;omega,hb,λj u hj hu=>?_,hhi⟩;have:=hle j m u x (by show j<=m;have:j<m+1:=hj;omega) hu hx;omega
  .refine go ?_;refine aN (a,m) (by show m - a<b - a;omega) ⟨by show a<=m;omega,by show m<=_;omega,hlo,λj u hj hu=>?_⟩;have:=hle m j x u hj hx hu;omega
 have hba:b=a:=z7
 subst hba;refine gH ?_ ?_<;>intro h2
 .have hn:xs[b]? =none:=fO z7;refine go ?_;exact gQ (b,false) ⟨by show b<=_;omega,hlo,hhi,by show false=true↔xs[b]? =some z;rw[hn];simp⟩
 refine go ?_;intro _ _ x hx;refine go ?_;by_cases hxz:x=z
 .subst hxz;rw[dK rfl];refine go ?_;exact gQ (b,true) ⟨by show b<=_;omega,hlo,hhi,by show true=true↔xs[b]? =some x;simp[hx]⟩
 .rw[aR hxz];refine go ?_;intro _ _ x2 hx2;refine gC (afy (x:=x2)) λ_ _=>?_;refine go ?_;exact gQ (b,false) ⟨by show b<=_;omega,hlo,hhi,by show false=true↔xs[b]? =some z;rw[hx];simp[hxz]⟩
def VH{aC:kI (Int×ae.Y)}(hl:aC.length<=4096):bA prog (.func 52) [v] [] [] [rT ae v aC] (λv':vI=>v') (λv'=>[ar ae v' aC]) (λ_=>[]) (λ_=>True):=by
 refine aM Oh VF λB w0=>?_;refine N8 (v:=v) (aC:=aC) ae (λe c ev=>?_) (λe i o f c ev=>?_) (λhne i o f c ev=>?_)
 .subst e ev;refine go ?_;refine(fA rfl rfl (Fe (e:=3) Ax rfl)).h ?_;refine go ?_;refine N9 ae ?_;exact ud
 .subst e ev;refine go ?_;refine(fA rfl rfl (zb (e:=3) Ax rfl)).h ?_;refine go ?_;intro b;refine go ?_;refine IY (b:=b) ?_;refine go ?_;refine tT (b:=b) (m:=0) (f:=0) ae (aC:=[]) rfl (.inl rfl) ?_ (hk:=az.here);exact pS
 .subst ev;refine go ?_;refine(fA rfl rfl (zb (e:=3) Ax rfl)).h ?_;refine go ?_;intro b;refine go ?_;refine IZ (b:=b) ae aC hne z7 (λb'=>?_);refine go ?_;refine tT (b:=b') (m:=aC.length) (f:=ae.n) ae (aC:=aC) rfl (.inr rfl) ?_ (hk:=az.here);exact gQ (.slice (some ⟨b',0,some ae.n⟩) aC.length aC.length) trivial
abbrev FH:kI vI:=[iV 0,iV 0,iV 0,.slice none 0 0,.slice none 0 0]
abbrev iO(g:bz)(vh vc:vI):kI vI:=[iV g.shape,iV g.w,iV g.h,vh,vc]
abbrev jq(g:bz)(vh vc:vI):kI aO:=[ai ae vh g.holes,ai ae vc g.cells]
structure Ol where
 ok:Bool
 vh:Value
 vc:Value
def wH(s w h:Int)(holes:kI Int):bz:=⟨s,w,h,holes,mX w h holes⟩
abbrev mkV(s w h:Int)(holes:kI Int)(y:Ol):vI:=.tuple ⟨[.agg ⟨cond y.ok (iO (wH s w h holes) y.vh y.vc) FH⟩,iV (cond y.ok 0 130)]⟩
abbrev pM(s w h:Int)(holes:kI Int)(y:Ol):kI aO:=cond y.ok (jq (wH s w h holes) y.vh y.vc) []
def yf(xs:kI Int):Int:=xs.getLast?.getD (-1)
def VI(xs:kI Int)(x:Int):yf (xs++[x])=x:=by simp[yf]
def afA(h:∀x∈xs,0<=x): -1<=yf xs:=by
 unfold yf;cases hx:xs.getLast? with
 |none=>simp
 |some x=>
  have:=h x (List.mem_of_getLast? hx);simp only[wQ];omega
def VJ(h:xs.Pairwise (·<·)){a:Int}(ha:a∈xs):a<=yf xs:=by
 unfold yf;cases hx:xs.getLast? with
 |none=>rw[List.getLast?_eq_none_iff]at hx;subst hx;cases ha
 |some x=>
  obtain⟨ys,rfl⟩:=List.getLast?_eq_some_iff.1 hx;simp only[wQ];rcases dX.1 ha with h1|h1
  .have:=(Kq.1 h).2.2 a h1 x (bM.2 rfl);omega
  .rw[bM.1 h1];exact Int.le_refl _
def afB{k:Nat}(h:xs.Pairwise (·<·))(hx:xs[k]? =some x)(h0:0<=x):yf (xs.take k)<x:=by
 unfold yf;cases hl:(xs.take k).getLast? with
 |none=>simp only[Option.getD_none];omega
 |some y=>
  simp only[wQ];have hy:=List.mem_of_getLast? hl;have hd:xs=xs.take k++x::xs.drop (k+1):=by
   conv=>lhs;rw[<- uq k xs]
   rw[oU (bq.1 hx).1,(bq.1 hx).2]
  rw[hd]at h;exact(Kq.1 h).2.2 y hy x (cB ..)
def Om{s w h:Int}{holes:kI Int}{vh:vI}(hw64:kD w)(afC:kD h)(hl:holes.length<4611686018427387904):
 bA prog (.func 208) [iV s,iV w,iV h,vh] [] [] [ai ae vh holes] (mkV s w h holes) (λ_=>[]) (pM s w h holes) (λy=>y.ok=true↔oH s w h holes):=by
 have bad:¬oH s w h holes->∀{B:kI Nat} {w0:Wd} {kl:kI OA} {F:kI aO} {l:qr} {n b:Nat} {bH:kI OA},lk l 8=ptr' b->lk l 9=iV 130->az (pt b (.cells FH)) kl bH->
  R (λh0=>Cs Oi (Go.Ideal.Left B w0 (mkV s w h holes) (λ_=>[]) (pM s w h holes) (λy=>y.ok=true↔oH s w h holes)) .ret (act n l [] none none) h0) B w0 kl F:=by
  intro hno B w0 kl F l n b bH h8 h9 hk;refine Sl (bH:=kl) ⟨false,.nilFunc,.nilFunc⟩ (vs:=[.agg ⟨FH⟩,iV 130]) ?_ rfl ⟨(λe=>by cases e),λe=>absurd e hno⟩ .nil .nil (.inr rfl);show RS l kl [.qA 5 8,.tmp 9] _;exact .qA h8 hk rfl (.tmp h9 .nil)
 refine aM Oi afw λB w0=>?_;refine go ?_;intro b8;refine go ?_;by_cases hsh:s=1\/s=2
 rotate_left
 .rw[dK (show s≠1 from λe=>hsh (.inl e))];refine go ?_;rw[dK (show s≠2 from λe=>hsh (.inr e))];refine go ?_;exact bad (λh=>hsh h.sh) rfl rfl .here
 have hmk:∀sh,(sh=1\/sh=2)->(oH sh w h holes↔oH s w h holes):=λsh e=>⟨λq=>⟨hsh,q.wi,q.he,q.len,q.inc,q.mem⟩,λq=>⟨e,q.wi,q.he,q.len,q.inc,q.mem⟩⟩
 have h22:∀{B:kI Nat} {w0:Wd} {kl:kI OA} {F:kI aO} {K:KO} {ds:kI Tmp} {rest:kI bV} {n:Nat} {l:qr} {D:kI Deferred},
  R (λh0=>aH prog ds rest (act n ((22,.bool false)::(21,.bool false)::l) D none none) h0 K) B w0 kl F->R (λh0=>aH prog ds rest (act n ((22,.bool false)::(21,.bool false)::l) D none none) h0 K) B w0 kl F:=λh=>h
 rcases hsh with rfl|rfl;all_goals
  refine gH ?_ ?_<;>intro a1
  rotate_left
  .exact tP
  refine gH ?_ ?_<;>intro a2
  rotate_left
  .exact tP
  refine gH ?_ ?_<;>intro a3
  rotate_left
  .exact tR
  refine gH ?_ ?_<;>intro a4
  rotate_left
  .exact tR
  have hwh:=xQ (w:=w) (h:=h) ⟨z7,z7⟩ ⟨z7,z7⟩;refine gIf ?_ ?_<;>intro a5
  .refine go ?_;exact bad (λq=>by have:=q.len;omega) rfl rfl .here
  refine gL (λk=>holes.length - k) (λk:Nat=>[(49,iV (k:Int)),(10,iV (yf (holes.take k)))]) (λk=>k<=holes.length/\(holes.take k).Pairwise (·<·)/\∀x∈holes.take k,0<=x/\x<w*h) 0 ⟨bR _,An,An⟩ ?_;rintro k ⟨hk,l6,hmem⟩;refine gIf ?_ ?_<;>intro a6
  .refine go ?_;intro _ _ x hx;refine go ?_;have hxm:=aZ hx;refine gG ?_ ?_<;>intro a7
   rotate_left
   .refine go ?_;exact bad (λq=>by
     have h1:=q.inc;have h2:=q.mem x hxm;have:=afB h1 hx h2.1;omega) rfl rfl .here
   refine gIf ?_ ?_<;>intro a8
   .refine go ?_;exact bad (λq=>by have:=q.mem x hxm;omega) rfl rfl .here
   refine go ?_;have htk:holes.take (k+1)=holes.take k++[x]:=by rw[nP,hx];rfl
   refine aN (k+1) z7 ⟨z7,?_,?_⟩ (hl:=⟨rfl,by rw[htk,VI];rfl,D0⟩)
   .rw[htk,Kq];refine⟨l6,An,λa ha b hb=>?_⟩;rw[bM.1 hb];have:=VJ l6 ha;omega
   .rw[htk];intro z hz;rcases dX.1 hz with hz|hz
    .exact hmem z hz
    .rw[bM.1 hz];have:=afA (λy hy=>(hmem y hy).1);omega
  have hkl:k=holes.length:=z7
  subst hkl;rw[bU]at l6 hmem;have hok:∀s',(s'=1\/s'=2)->oH s' w h holes:=λs' hs'=>⟨hs',⟨z7,z7⟩,⟨z7,z7⟩,z7,l6,hmem⟩
  obtain⟨m,hm⟩:=jA (show 0<=w*h by omega);have FI:mX w h holes=gI m holes:=by
   unfold mX;rw[hm];rfl
  refine go ?_;refine IW ae vh (λxh hxh=>?_);have hxl:xh.length=holes.length:=by rw[<- hxh,bY]
  refine ay (VH (aC:=xh) z7) (next:=λv1 _=>?_);refine IX (E:=ae) (v:=v1) (aC:=xh) ?_ (λw h p hp f hf=>by cases hf);rw[hxh];refine gF ae v1 holes λa1 c1 e1=>?_;subst e1;refine go ?_;rw[hm];refine af5 ae ?_;refine aU (λy:Nat×x8 Addr=>m - y.1) (λy=>[(75,iV (y.1:Int))]) (λy=>[pt b8 (.cells [iV _,iV w,iV h,.slice a1 holes.length c1,.slice y.2 (gI y.1 holes).length (gI y.1 holes).length]),ap ae (.slice y.2 (gI y.1 holes).length (gI y.1 holes).length) (gI y.1 holes)]) (λ_=>[]) (λy=>y.1<=m) (0,none) (bR _) (hk:=As) (body:=?_);rintro⟨k,ad⟩ hk;dsimp only at hk⊢;have hcl:=CW k holes;refine gIf ?_ ?_<;>intro a9
  .refine gC (VG (xs:=holes) (z:=(k:Int)) hl (l6.imp (λh=>Int.le_of_lt h))) λy hy=>?_;have hmm:=hy.mem l6;clear hy;obtain⟨n,b⟩:=y;dsimp only at hmm;refine go ?_;cases b with
   |true=>
    refine go ?_;have e1:gI (k+1) holes=gI k holes:=by rw[Jd,if_pos (hmm.1 rfl),gU]
    rw[<- e1];exact aN (k+1,ad) CM CN
   |false=>
    have hnm:¬(k:Int)∈holes:=λh=>by have:=hmm.2 h;cases this
    have e1:gI k holes++[(k:Int)]=gI (k+1) holes:=by rw[Jd,if_neg hnm]
    have e2:(gI k holes).length+1=(gI (k+1) holes).length:=by rw[<- e1];simp
    refine go ?_;intro b89;refine go ?_;refine fB ae (xs:=gI k holes) (k:Int) () z7 λad'=>?_;rw[e1,e2];refine go ?_;exact aN (k+1,ad') CM CN
  have hkm:k=m:=z7
  subst hkm;refine go ?_;refine aie gz (A:=ap ae (.slice ad (gI k holes).length (gI k holes).length) (gI k holes)) (h:=?_);refine go ?_;refine gQ ⟨true,.slice a1 holes.length c1,.slice ad (gI k holes).length (gI k holes).length⟩ ⟨λ_=>hok _ (by first|exact .inl rfl|exact .inr rfl),λ_=>rfl⟩ (hF:=?_);show Sub [ai ae _ holes,ai ae _ (mX w h holes)] _;rw[FI];exact .cons An (.cons An .nil)
end Go.Proofs.YtoilpafpgndilaaGreat
namespace Go.Proofs.YtoilpafpgndilaaGreat
open Tryz (prog)
open Go.Ideal Kd
structure qP(g:bz):Prop where
 w:kD g.w
 h:kD g.h
 holes:g.holes.length<4611686018427387904
 cells:g.cells.length<4611686018427387904
variable{g:bz}{vh vc:vI}
def VK(hS:qP g):
 fC prog 227 [.agg ⟨iO g vh vc⟩] (jq g vh vc) (λe:Int=>iV e) (λe=>e=0↔fE g):=by
 refine gB 227 λB w0=>?_;refine go ?_;intro b1;refine gC (Om (s:=g.shape) (w:=g.w) (h:=g.h) (holes:=g.holes) (vh:=vh) hS.w hS.h hS.holes) λy hy=>?_;obtain⟨ok,v1,v2⟩:=y;cases ok with
 |false=>
  exact gf
 |true=>
  have hmk:=hy.1 rfl;dsimp only[mkV,pM,cond,jq,wH,List.cons_append,List.nil_append];refine go ?_;intro b3;refine gC (Bf (xs:=mX g.w g.h g.holes) (ys:=g.cells) (by
   exact tn)) λ_ _=>?_
  exact hJ
abbrev afF(x:Int×(Int×Int)):kI vI:=[iV x.1,AX x.2]
def Oo{b1:Nat}(hg:fE g):y9 prog afF (.func 347) [] [ptr' b1] [gY b1 0 (iO g vh vc),ai ae vc g.cells] (λxs=>xs=bB g):=by
 intro S inv ok step s0 Fb y1 y2 F' h0 hok hy;have hgl:=hg.len;have FJ:=hg.make.wi;rw[fV,fV,dY];refine gB 347 λB w0=>?_;refine go ?_;refine aU (λy:Nat×S=>g.cells.length - y.1) (λy=>[(10,iV (y.1:Int))]) (λy=>inv y.2) (λ_=>[]) (λy=>y.1<=g.cells.length/\ok ((bB g).take y.1) y.2/\mD step y.2 ((bB g).drop y.1)=mD step s0 (bB g)) (0,s0) ⟨bR _,h0,rfl⟩ (body:=?_);rintro⟨k,s⟩ ⟨hk,hos,hrun⟩;dsimp only at hk hos hrun⊢;refine gIf ?_ ?_<;>intro h1
 .refine go ?_;intro _ _ x hx;have hxb:=hg.cell x (aZ hx);have hsp:=zg hx;have hd:(bB g).drop k=((k:Int),nM g x)::(bB g).drop (k+1):=by
   rw[oU DO];congr 1;rw[bP DO]at hsp;exact Option.some.inj hsp
  have hX:(bB g).take k++((k:Int),nM g x)::(bB g).drop (k+1)=bB g:=by rw[<- hd,uq]
  refine go ?_;refine(fA rfl rfl (AC (a:=x) (b:=g.w) rfl rfl z7)).h ?_;refine go ?_;have hq:0<=x.tdiv g.w/\x.tdiv g.w<=x:=by
   rw[uz hxb.1];exact⟨Ko hxb.1 z7,Int.ediv_le_self _ hxb.1⟩
  have hr:0<=x.tmod g.w/\x.tmod g.w<=x:=by
   rw[DJ hxb.1];refine⟨Int.emod_nonneg _ z7,?_⟩;have:=PS x g.w;have h3:0<=g.w*(x/g.w):=Int.mul_nonneg z7 (Ko hxb.1 z7);omega
  refine(fA rfl rfl (EN (a:=x) (b:=g.w) rfl rfl z7 z7 z7)).h ?_;refine gIf ?_ ?_<;>intro h2
  .have hso:nM g x=(x.tmod g.w - (x.tdiv g.w).tdiv 2,x.tdiv g.w):=by unfold nM;rw[if_pos h2]
   have hq2:0<=(x.tdiv g.w).tdiv 2/\(x.tdiv g.w).tdiv 2<=x.tdiv g.w:=by
    rw[uz hq.1];omega
   rw[hso]at hX hd;have Bi:=hy _ s _ _ hos hX;refine go ?_;refine(fA rfl rfl (EN (a:=x.tdiv g.w) (b:=2) rfl rfl z7 z7 z7)).h ?_;exact cU
  .have hso:nM g x=(x.tmod g.w,x.tdiv g.w):=by unfold nM;rw[if_neg h2]
   rw[hso]at hX hd;have Bi:=hy _ s _ _ hos hX;exact cU
 have hkl:k=(bB g).length:=DO
 rw[hkl,alV]at hrun;refine go ?_;exact gQ (bB g) rfl (hk:=GF)
end Go.Proofs.YtoilpafpgndilaaGreat
namespace Go.Proofs.YtoilpafpgndilaaGreat
open Tryz (prog)
open Go.Ideal Kd
def VL:Au (pX prog qC pY):=Cr _ _ _ (λf q h v h' hm=>by cases hm)
def afG(h:IH)(K:BR):(BV (pX prog qC pY) 1000).call ⟨.func 129,[.int .u64 0],[],none⟩ h K=K (.ok (iV 0)) none h:=Ax
def afH:dD prog 129 [.int .u64 0] [] (iV 0):=λB w s=>by
 have h2:=afG w.h λr pm h'=> @decide (pm=none/\r=.ok (iV 0)/\h'=w.h) (Classical.propDecidable _);have h1:=Hf VL (h2.trans (@dK _ (Classical.propDecidable _) ⟨rfl,rfl,rfl⟩));refine .vT _ h1 λr pm h' hg=>?_;obtain⟨rfl,rfl,rfl⟩:= @iI _ (Classical.propDecidable _) hg;exact⟨rfl,w,(),rfl,s,rfl,trivial⟩
variable{a:x8 Addr}{c:Nat}
def afI:dD prog 245 [.slice a 0 c,iV 0,iV 0] [] (.tuple ⟨[]⟩):=by
 refine gB 245 λB w0=>?_;refine go ?_;refine mR ?_;exact afN
def afJ:dD prog 163 [.slice a 0 c,iV 0,iV 0,iV 0] [] (.tuple ⟨[]⟩):=by
 refine gB 163 λB w0=>?_;refine go ?_;refine mR ?_;refine gC (afI (a:=a) (c:=c)) λ_ _=>?_;exact afN
def afK:dD prog 126 [.slice a 0 c] [] (.tuple ⟨[]⟩):=by
 refine aM Og VE λB w0=>?_;refine go ?_;refine(fA rfl rfl (CR (k:=.u64) (m:=0) (by kernel_rfl:prog.underlying 3=some (.int .i64)) Ax rfl AD)).h ?_;refine ay afH (next:=λ_ _=>?_);refine gC (afJ (a:=a) (c:=c)) λ_ _=>?_;exact afN
def afL:∃fn body,prog.funcs[126]? =some fn/\fn.body=some body/\fn.name≠ "runtime.NumGoroutine" :=by
 obtain⟨fn,h1,h2⟩:=VL.fn 126 Og VE;have h3:prog.funcs[126]? =some fn:=h1;have h4:(fn.name== "runtime.NumGoroutine")=false:=by
  have e:(prog.funcs[126]?).map (λf=>f.name== "runtime.NumGoroutine")=some false:=Ax
  rw[h3]at e;exact Option.some.inj e
 have h5:fn.body.isSome=true:=by
  have e:(prog.funcs[126]?).map (λf=>f.body.isSome)=some true:=Ax
  rw[h3]at e;exact Option.some.inj e
 obtain⟨body,hb⟩:=aoT.1 h5;exact⟨fn,body,h3,hb,by simpa using h4⟩
def Oq{m:Nat}{zs:kI Int}(hm:m=zs.length)(hl:zs.length<4611686018427387904):
 bA prog (.func 126) [.slice a m m] [] [ap ae (.slice a m m) zs] [] (λ_:Unit=>.tuple ⟨[]⟩) (λ_=>[ap ae (.slice a m m) (bW zs)]) (λ_=>[]) (λ_=>True):=by
 subst hm;obtain⟨fn,body,h1,h2,h3⟩:=afL;by_cases hz:zs=[]
 .subst hz;have e:bW []=[]:=by simp[bW]
  rw[e];intro B w s;obtain⟨S1,s1,back⟩:=s.pz (k1:=[]) (bH:=[ap ae (.slice a 0 0) []]) (F1:=[]) .nil .nil;refine .vT _ (afK (a:=a) (c:=0) S1 w s1) ?_;exact sq
 .exact ac6 srt h1 h2 h3 (BK.2 hz) hl
def VM:rR prog 329 AX:=adm (e:=3) Ax Ax Ax (λa b=>by kernel_rfl)
variable{g:bz}{vh vc:vI}
def Ot:bA prog (.func 308) [.agg ⟨iO g vh vc⟩] [] [] (jq g vh vc) (λb:Nat=>.func (.func 347) #[] #[ptr' b]) (λ_=>[]) (λb=>[gY b 0 (iO g vh vc),ai ae vc g.cells]) (λ_=>True):=by
 refine gB 308 λB w0=>?_;refine go ?_;intro b1;refine go ?_;refine gP b1 ?_;exact gQ b1 trivial
def jr(c:Prop)(f:aO):aO:=⟨λw=>c->f.p w,λa h e=>f.mono a (h e)⟩
variable{B:kI Nat}{w0:Wd}{kl:kI OA}{F:kI aO}{Q:IH->Prop}{f:aO}
def jE{c:Prop}(hc:¬c)(h:R Q B w0 kl (jr c f::F)):R Q B w0 kl F:=eF (jr c f) (λw _ e=>absurd e hc) h
def jP{c:Prop}(hf:f∈F)(h:R Q B w0 kl (jr c f::F)):R Q B w0 kl F:=eF (jr c f) (λw hw _=>hw f hf) h
structure Ou where
 v:Value
 e:Int
abbrev wI(y:Ou):vI:=.tuple ⟨[y.v,iV y.e]⟩
def JK{S α:Type}(f:S->α->S):∀(xs:kI α) (s:S),pq (λs x=>(f s x,Out.normal)) s xs=(xs.foldl f s,.normal)
 |[],s=>rfl
 |x::xs,s=>by
  show pq (λs x=>(f s x,Out.normal)) (f s x) xs=_;rw[JK f xs];rfl
section
variable {P:Program} {B:kI Nat} {w0:Wd} {kl kl':kI OA} {F:kI aO} {Q:IH->Prop}
def afM{b:Nat}{cs cs':kI vI}(e:cs=cs')(h:R Q B w0 (pt b (.cells cs')::kl') F)(hk:az (pt b (.cells cs)) kl kl':=by exact afv):R Q B w0 kl F:=by
 subst e;exact λw s=>h w (s.gq hk)
def pO{α:Type}{E:Enc α}{v:vI}{xs:kI α}(h:∀a,v=.slice a xs.length xs.length->R Q B w0 kl F)(hk:az (ap E v xs) kl kl':=by exact afv):R Q B w0 kl F:=λw s=>by
 obtain⟨S,⟨S1,S2,q,_⟩,_⟩:=(s.gq hk).own;obtain⟨a,e⟩:=Mx q;exact h a e w s
end
abbrev Bj(b n:Nat):vI:=.slice (some ⟨b,0,some 0⟩) n n
def VN(hS:qP g):
 bA prog (.func 209) [.agg ⟨iO g vh vc⟩] [] [] (jq g vh vc) wI (λ_=>[]) (λy=>[jr (y.e=0) (ai (tY ae) y.v (bJ g))]) (λy=>y.e=0↔fE g):=by
 refine MM _ (aP 209) λB w0=>?_;refine go ?_;intro b1 b2;refine gC (VK (g:=g) hS) λe he=>?_;refine gIf ?_ ?_<;>intro h1
 .refine go ?_;refine jE (c:=(130:Int)=0) (f:=ai (tY ae) (.slice none 0 0) (bJ g)) z7 ?_;exact IJ ⟨.slice none 0 0,130⟩ (hv:=rfl) (hp:=⟨(λh=>by cases h),λh=>absurd (he.2 h) h1⟩)
 have hg:=he.1 z7;have hgl:=hg.len;have hsb:=Jg hg;have hsl:=qK g;refine go ?_;intro b4 b5;refine go ?_;refine SF (bH:=[pt b4 (.cells CY),pt b2 (.cells [.slice none 0 0]),pt b1 (.cells (iO g vh vc))]) [] (λ_:Unit=>[]) (λ_=>[pt b5 (.cells [iV (dV g:Int)])]) (λ_=>[]) (λ_=>True) (hx:=?_) (hy:=?_)
 .refine aA rfl ?_ ?_<;>intro h2
  .refine go ?_;rw[show(4:Int)=(dV g:Int)by unfold dV;rw[if_pos h2];rfl];exact IM () trivial
  .refine go ?_;rw[show(6:Int)=(dV g:Int)by unfold dV;rw[if_neg h2];rfl];exact IM () trivial
 intro _ _;refine go ?_;refine y8 AX (λbm=>?_);refine go ?_;intro b6;refine gC (Ot (g:=g) (vh:=vh) (vc:=vc)) λbs _=>?_;refine go ?_;refine IV (Z:=Nat) (λ(m:kI ((Int×Int)×vI)) (x:Int×(Int×Int))=>(upd x.2 (iV x.1) m,.normal)) (λm=>[mpA AX bm m,pt b6 (.cells [.map (some bm)])]) (λvs m=>m=atM vs) [] _ (λx b8=>[pt b8 (.cells [iV x.2.1,iV x.2.2])]) rfl (λvs s x rest hs _ _=>by rw[hs,Ng]) (Oo (b1:=bs) (vh:=vh) (vc:=vc) hg) GO ?_ ?_ (λ_ _=>trivial)
 .intro vs s x rest b8 lo L B w0 hs hX;dsimp only[List.cons_append,List.nil_append];refine go ?_;refine xN VM x.2 (v:=iV x.1) ?_;refine go ?_;exact kq
 intro r1 xs hxs;subst hxs;rw[JK (λ(m:kI ((Int×Int)×vI)) (x:Int×(Int×Int))=>upd x.2 (iV x.1) m)];dsimp only[List.cons_append,List.nil_append];rw[show(bB g).foldl (λ(m:kI ((Int×Int)×vI)) (x:Int×(Int×Int))=>upd x.2 (iV x.1) m) []=atM (bB g)from rfl];refine gZ (CK (b:=bm)) ?_;refine gP b6 ?_;refine go ?_;refine IK g.cells.length ⟨z7,z7,z7⟩ λbl=>?_;rw[show zeros [.slice none 0 0] g.cells.length=List.replicate g.cells.length (.slice none 0 0)from RN _ _];refine adw (lD ae) (x0:=([]:kI Int)) (λw=>⟨.inl ⟨rfl,rfl,rfl⟩,λ_=>rfl⟩) (h:=?_);refine gC (Ot (g:=g) (vh:=vh) (vc:=vc)) λbs2 _=>?_;refine go ?_;refine gP b4 ?_;refine gP b5 ?_;have hml:(eO.take (dV g)).length=dV g:=by rw[gT];show min (dV g) 6=_;have:=A8 g;omega
 refine eF (ai Nh (.slice (some ⟨b4,0,some 0⟩) (dV g) 6) (eO.take (dV g))) (λw h=>adN (h (gY b4 0 CY) (cO _ (cB ..))) (A8 g)) ?_;refine IV (Z:=Nat) (λ(xss:kI (kI Int)) (x:Int×(Int×Int))=>(xss.set x.1.toNat (lX g x),.normal)) (λxss=>[nY (lD ae) bl xss,pt b2 (.cells [Bj bl g.cells.length])]) (λvs xss=>xss=vs.map (lX g)++List.replicate (g.cells.length - vs.length) []) (List.replicate g.cells.length []) _ (λx b10=>[pt b10 (.cells [iV x.2.1,iV x.2.2])]) An (λvs s x rest hs hX _=>by
  have h1:=Jh hX;rw[hs,h1.1];have:=Ul (A:=vs.map (lX g)) (n:=g.cells.length) (by rw[bY];exact h1.2.1) (lX g x);rw[bY]at this;rw[kJ,this,fP,iH];rfl) (Oo (b1:=bs2) (vh:=vh) (vc:=vc) hg) GO ?_ ?_ (λ_ _=>trivial)
 .intro vs xss x rest b10 lo L B w0 hs hX;dsimp only[List.cons_append,List.nil_append];obtain⟨hc,hvl,hxm⟩:=Jh hX;have hbx:=hsb x hxm;obtain⟨c,s1,s2⟩:=x;dsimp only at hc hbx;subst hc;have hxk:xss[vs.length]? =some []:=by
   rw[hs,pR An,bY,vK,PO,if_pos z7]
  have hxl:xss.length=g.cells.length:=by rw[hs];simp;omega
  refine go ?_;refine(fA rfl rfl (adQ (m:=dV g) rfl rfl (A8 g))).h ?_;refine go ?_;refine I8 (A:=nY (lD ae) bl xss) (A':=nY (lD ae) bl (xss.set vs.length (gu (atM (bB g)) (s1,s2) ((eO.take (dV g)).take 0)))) (congrArg (nY (lD ae) bl) (by
   apply iY;intro i;rw[oQ];by_cases hi:vs.length=i
   .subst hi;rw[if_pos rfl,if_pos z7,hxk];rfl
   .rw[if_neg hi])) ?_
  refine aU (λj=>dV g - j) (λj:Nat=>[(47,iV (j:Int))]) (λj=>[nY (lD ae) bl (xss.set vs.length (gu (atM (bB g)) (s1,s2) ((eO.take (dV g)).take j)))]) (λ_=>[]) (λj=>j<=dV g) 0 (bR _) (body:=?_);intro j hj;refine gIf ?_ ?_<;>intro h2
  .refine go ?_;obtain⟨dd,hd⟩:∃dd,(eO.take (dV g))[j]? =some dd:=⟨_,bP z7⟩
   have hdb:=adO dd (BJ (aZ hd));have hdv:jf (jH CY (j*2)) 2=some [iV dd.1,iV dd.2]:=adP (j:=j) (d:=dd) (by rw[sK]at hd;split at hd;exact hd;cases hd)
   have hnr:=adM (atM (bB g)) (s1,s2) ((eO.take (dV g)).take j) dd;rw[<- bZ hd]at hnr;have hnl:=Jf (atM (bB g)) (s1,s2) ((eO.take (dV g)).take j);have hjm:=A8 g;rw[gT]at hnl;obtain⟨d1,d2⟩:=dd;dsimp only at hdb hdv hnr;refine(Sa (o:=0) (j:=j*2) (cs:=CY) rfl rfl rfl (cO _ (cO _ (cB ..))) hdv).h ?_;refine go ?_;intro b12;refine go ?_;refine(fA rfl rfl (Cw (a:=s1) (b:=d1) rfl rfl z7 z7)).h ?_;refine go ?_;refine(fA rfl rfl (Cw (a:=s2) (b:=d2) rfl rfl z7 z7)).h ?_;refine go ?_;refine Vu VM (s1+d1,s2+d2) (λv hv hm=>?_) (λhm=>?_)
   .obtain⟨c,rfl,hc⟩:=Uk _ _ hv;rw[hv]at hnr;refine go ?_;refine TK (lD ae) (b:=bl) (xss:=xss.set vs.length (gu (atM (bB g)) (s1,s2) ((eO.take (dV g)).take j))) (k:=vs.length) (xs:=gu (atM (bB g)) (s1,s2) ((eO.take (dV g)).take j)) K0 (h:=λws v FK hv2=>?_);rw[pV]at FK;refine TM ae v (gu (atM (bB g)) (s1,s2) ((eO.take (dV g)).take j)) (λhz=>?_);refine qh (o:=0+vs.length*1) (cs:=ws) v (by rw[fo,uw];exact hv2) ?_;refine go ?_;intro b43;refine go ?_;refine TC (xs:=gu (atM (bB g)) (s1,s2) ((eO.take (dV g)).take j)) ae c () z7 (next:=λad=>?_);rw[show gu (atM (bB g)) (s1,s2) ((eO.take (dV g)).take j)++[c]=gu (atM (bB g)) (s1,s2) ((eO.take (dV g)).take (j+1))from hnr.symm];refine go ?_;refine qI (o:=0+vs.length*1) (cs:=ws) (v:=.slice ad ((gu (atM (bB g)) (s1,s2) ((eO.take (dV g)).take j)).length+1) ((gu (atM (bB g)) (s1,s2) ((eO.take (dV g)).take j)).length+1)) (cs':=ws.set vs.length (.slice ad ((gu (atM (bB g)) (s1,s2) ((eO.take (dV g)).take j)).length+1) ((gu (atM (bB g)) (s1,s2) ((eO.take (dV g)).take j)).length+1))) (by rw[fo,uw]) z7 ?_;refine TN ae (.slice ad ((gu (atM (bB g)) (s1,s2) ((eO.take (dV g)).take j)).length+1) ((gu (atM (bB g)) (s1,s2) ((eO.take (dV g)).take j)).length+1)) (gu (atM (bB g)) (s1,s2) ((eO.take (dV g)).take (j+1))) (λe=>by rw[hnr]at e;exact absurd e (by show¬(_++[c]=[]);simp)) ?_;refine TL (lD ae) (b:=bl) (xss:=xss.set vs.length (gu (atM (bB g)) (s1,s2) ((eO.take (dV g)).take j))) (vs:=ws) (k:=vs.length) (xs:=gu (atM (bB g)) (s1,s2) ((eO.take (dV g)).take (j+1))) (by rw[pV];exact FK) (by rw[pV];omega) (h:=?_);rw[List.set_set];refine go ?_;exact aN (j+1) z7 z7
   .rw[rU hm]at hnr;refine go ?_;refine I8 (A:=nY (lD ae) bl (xss.set vs.length (gu (atM (bB g)) (s1,s2) ((eO.take (dV g)).take j)))) (A':=nY (lD ae) bl (xss.set vs.length (gu (atM (bB g)) (s1,s2) ((eO.take (dV g)).take (j+1))))) (congrArg (nY (lD ae) bl) ((by rw[hnr];exact congrArg (xss.set vs.length) (gU _).symm))) ?_;exact aN (j+1) z7 z7
  have hjl:j=dV g:=z7
  subst hjl;refine I8 (A:=nY (lD ae) bl (xss.set vs.length (gu (atM (bB g)) (s1,s2) ((eO.take (dV g)).take (dV g))))) (A':=nY (lD ae) bl (xss.set vs.length (gu (atM (bB g)) (s1,s2) (eO.take (dV g))))) (congrArg (nY (lD ae) bl) ((congrArg (λz=>xss.set vs.length (gu (atM (bB g)) (s1,s2) z)) (ry (Nat.le_of_eq hml))))) ?_;refine go ?_;refine TK (lD ae) (b:=bl) (xss:=xss.set vs.length (gu (atM (bB g)) (s1,s2) (eO.take (dV g)))) (k:=vs.length) (xs:=gu (atM (bB g)) (s1,s2) (eO.take (dV g))) K0 (h:=λws v FK hv2=>?_);rw[pV]at FK;refine TM ae v (gu (atM (bB g)) (s1,s2) (eO.take (dV g))) (λhz=>?_);refine qh (o:=0+vs.length*1) (cs:=ws) v (by rw[fo,uw];exact hv2) ?_;have hn6:=Jf (atM (bB g)) (s1,s2) (eO.take (dV g));rw[hml]at hn6;have hjm:=A8 g;refine pO (E:=ae) (v:=v) (xs:=gu (atM (bB g)) (s1,s2) (eO.take (dV g))) λa hv=>?_;subst hv;refine ay (Oq (a:=a) (zs:=gu (atM (bB g)) (s1,s2) (eO.take (dV g))) rfl z7) (next:=λ_ _=>?_);refine afM (b:=bl) (cs:=ws) (cs':=ws.set vs.length (.slice a (gu (atM (bB g)) (s1,s2) (eO.take (dV g))).length (gu (atM (bB g)) (s1,s2) (eO.take (dV g))).length)) (adR hv2).symm ?_;refine TN ae (.slice a (gu (atM (bB g)) (s1,s2) (eO.take (dV g))).length (gu (atM (bB g)) (s1,s2) (eO.take (dV g))).length) (bW (gu (atM (bB g)) (s1,s2) (eO.take (dV g)))) (λe=>hz (jy.1 (by rw[<- AV,e];rfl))) ?_;refine TL (lD ae) (b:=bl) (xss:=xss.set vs.length (gu (atM (bB g)) (s1,s2) (eO.take (dV g)))) (vs:=ws) (k:=vs.length) (xs:=bW (gu (atM (bB g)) (s1,s2) (eO.take (dV g)))) (by rw[pV];exact FK) (by rw[pV];omega) (h:=?_);refine I8 (A:=nY (lD ae) bl ((xss.set vs.length (gu (atM (bB g)) (s1,s2) (eO.take (dV g)))).set vs.length (bW (gu (atM (bB g)) (s1,s2) (eO.take (dV g)))))) (A':=nY (lD ae) bl (xss.set ((vs.length:Int)).toNat (lX g ((vs.length:Int),s1,s2)))) (congrArg (nY (lD ae) bl) ((by rw[List.set_set,kJ];rfl))) ?_;refine go ?_;exact EY () rfl trivial trivial
 intro r2 xs2 afP;subst afP;rw[JK (λ(xss:kI (kI Int)) (x:Int×(Int×Int))=>xss.set x.1.toNat (lX g x))];dsimp only[List.cons_append,List.nil_append];rw[show(bB g).foldl (λ(xss:kI (kI Int)) (x:Int×(Int×Int))=>xss.set x.1.toNat (lX g x)) (List.replicate g.cells.length [])=bJ g from adS g];refine gZ (adx (A:=lD ae) (E:=tY ae) (b:=bl) (xss:=bJ g) (c:=(bJ g).length) (λv=>v) rfl (λ_ _=>rfl) (λv xs=>ady)) ?_;rw[wm];refine go ?_;refine jP (c:=(0:Int)=0) (f:=ai (tY ae) (.slice (some ⟨bl,0,some 0⟩) g.cells.length g.cells.length) (bJ g)) An ?_;exact IJ ⟨.slice (some ⟨bl,0,some 0⟩) g.cells.length g.cells.length,0⟩ (hv:=rfl) (hp:=⟨λ_=>hg,λ_=>rfl⟩)
end Go.Proofs.YtoilpafpgndilaaGreat
namespace Go.Proofs.YtoilpafpgndilaaGreat
open Tryz (prog)
open Go.Ideal Kd
def jv(n:Nat)(xs:kI Int):kI vI:=(List.range n).map λj:Nat=>.bool (decide ((j:Int)∈xs))
def JL(n:Nat)(xs:kI Int):(jv n xs).length=n:=by unfold jv;rw[bY,uu]
variable{n j:Nat}{xs:kI Int}
def VO(hj:j<n):(jv n xs)[0+j*1]? =some (.bool (decide ((j:Int)∈xs))):=by
 rw[fo,uw];unfold jv;rw[dm,pU hj];rfl
def afQ(hj:j<n):(jv n xs).set (0+j*1) (.bool true)=jv n (xs++[(j:Int)]):=by
 rw[fo,uw];apply iY;intro i;rw[oQ,JL];unfold jv;by_cases hi:i<n
 .exact py
 .exact fW
def VP(n:Nat):zeros [.bool false] n=jv n []:=by
 have h:zeros [.bool false] n=List.replicate n (.bool false):=by
  induction n with
  |zero=>rfl
  |succ n ih=>rw[Gg,<- ih];rfl
 rw[h];unfold jv;apply iY;intro i;rw[dm,PO];by_cases hi:i<n
 .rw[pU hi,if_pos hi];simp
 .rw[fO (by rw[uu];omega),if_neg hi];rfl
def VQ{b:Nat}{x:Int}:rH (pt b (.cells [iV x])) [ai ae (.slice (some ⟨b,0,some 0⟩) 1 1) [x]]:=uR (xs:=[x])
end Go.Proofs.YtoilpafpgndilaaGreat
namespace Go.Proofs.YtoilpafpgndilaaGreat
open Tryz (prog)
open Go.Ideal Kd
noncomputable def VS:=uE prog 94
def afR:mO prog 94=some VS:=Ax
abbrev jF(n:Int):vI:=iV n
def zw:rR prog 3 jF:=acS Ax
variable{bm:Nat}{aj:kI (Int×vI)}
def afS:bA prog (.func 348) [.map (some bm)] [] [] [xM jF bm aj] (λb:Nat=>.func (.func 372) #[] #[ptr' b]) (λ_=>[]) (λb=>[gY b 0 [.map (some bm)],xM jF bm aj]) (λ_=>True):=by
 refine gB 348 λB w0=>?_;refine go ?_;intro b1;refine go ?_;refine gP b1 ?_;exact gQ b1 trivial
def afT{b:Nat}:y9 prog (λx:Int=>[jF x]) (.func 372) [] [ptr' b] [gY b 0 [.map (some bm)],xM jF bm aj] (λxs=>xs.Perm (aj.map (·.1))):=by
 intro S inv ok step s0 Fb y1 y2 F' h0 hok hy;rw[fV,fV,dY];refine gB 372 λB w0=>?_;refine go ?_;refine acV (b:=bm) (aj:=aj) (aX:=jF) (next:=λr=>?_);refine go ?_;refine aU (λy:kI (Int×vI)×S=>aj.length - y.1.length) (λy=>[]) (λy=>CL jF r bm aj y.1::inv y.2) (λ_=>[]) (λy=>ok (y.1.map (·.1)) y.2/\(∃rest,(y.1++rest).Perm aj)/\∀rest,mD step s0 (y.1.map (·.1)++rest)=mD step y.2 rest) ([],s0) ⟨h0,⟨aj,.refl _⟩,λ_=>rfl⟩ (body:=?_);rintro⟨kU,s⟩ ⟨hos,_,hrun⟩;dsimp only at hos hrun⊢;refine go ?_;refine acX (b:=bm) (aj:=aj) (kU:=kU) (aX:=jF) (more:=λp rem hp=>?_) (done:=λhp=>?_) adT
 .have hX:(kU.map (·.1)++p.1::rem.map (·.1)).Perm (aj.map (·.1)):=by
   have:=hp.map (·.1);rw[fP,agO]at this;exact this
  have hlen:=hp.length_eq;rw[iH,oP]at hlen;have Bi:=hy _ s _ _ hos hX;refine go ?_;refine ac4 (aX:=jF) (aj:=aj) (kU:=kU) (p:=p) ?_;refine gC Bi λ_ _=>?_;cases hst:(step s p.1).2 with
  |true=>
   have hs1:step s p.1=((step s p.1).1,true):=Prod.ext rfl hst;refine go ?_;refine aN (kU++[p],(step s p.1).1) (by show aj.length - (kU++[p]).length<_;rw[iH,zS];omega) ⟨?_,⟨rem,by show((kU++[p])++rem).Perm aj;rw[List.append_assoc];exact hp⟩,λrest=>?_⟩
   .show ok ((kU++[p]).map (·.1)) _;rw[fP];exact hok _ s _ _ hos hX hst
   .show mD step s0 ((kU++[p]).map (·.1)++rest)=_;rw[fP,List.append_assoc,hrun];show mD step s (p.1::rest)=_;rw[mD,hs1]
  |false=>
   have hs1:step s p.1=((step s p.1).1,false):=Prod.ext rfl hst;have hr:=hrun (p.1::rem.map (·.1));rw[mD,hs1]at hr;dsimp only at hr;refine go ?_;exact gQ (kU.map (·.1)++p.1::rem.map (·.1)) hX (hk:=by rw[hr];exact aI.self _ _)
 .refine go ?_;have hr:=hrun [];rw[gU]at hr;exact gQ (kU.map (·.1)) (hp.map (·.1)) (hk:=by rw[hr];apply aI.there;exact aI.all _)
structure Ov where
 v:Value
 xs:List Int
variable{fn:Fn}{first captured:kI vI}{F1:kI aO}{X:kI Int->Prop}
def afU(hit:y9 prog (λx:Int=>[jF x]) fn first captured F1 X)(hl:∀xs,X xs->xs.length<=1000000):
 bA prog (.func 162) [.slice none 0 0,.func fn ⟨first⟩ ⟨captured⟩] [] [] F1 (λy:Ov=>y.v) (λy=>[ap ae y.v y.xs]) (λ_=>[]) (λy=>X y.xs):=by
 refine MM Vj aeY λB w0=>?_;refine go ?_;intro b2;refine af5 ae ?_;refine SC (λv:vI=>[pt b2 (.cells [v]),ap ae v ([]:kI Int)]) (.slice none 0 0) (h:=?_);refine IV (Z:=Nat) (λ(ys:kI Int) (x:Int)=>(ys++[x],Out.normal)) (λys=>[ae4 ae b2 ys]) (λvs ys=>ys=vs) [] _ (λ_ _=>[]) rfl (λvs s x rest hs hX _=>by rw[hs]) hit Iv ?_ ?_ (λ_ _=>trivial)
 .exact dl
 .exact ef
def afV(hit:y9 prog (λx:Int=>[jF x]) fn first captured F1 X)(hl:∀xs,X xs->xs.length<=1000000):
 bA prog (.func 125) [.func fn ⟨first⟩ ⟨captured⟩] [] [] F1 (λy:Ov=>y.v) (λy=>[ap ae y.v y.xs]) (λ_=>[]) (λy=>X y.xs):=by
 refine aM Vk aeZ λB w0=>?_;refine gC (afU hit hl) λy hy=>?_;dsimp only[List.cons_append,List.nil_append];refine go ?_;exact gQ y hy
def VT(hit:y9 prog (λx:Int=>[jF x]) fn first captured F1 X)(hl:∀xs,X xs->xs.length<=1000000):
 bA prog (.func 94) [.func fn ⟨first⟩ ⟨captured⟩] [] [] F1 (λy:Ov=>y.v) (λy=>[ap ae y.v (bW y.xs)]) (λ_=>[]) (λy=>X y.xs):=by
 refine aM VS afR λB w0=>?_;refine gC (afV hit hl) λy hy=>?_;obtain⟨v,xs⟩:=y;dsimp only[List.cons_append,List.nil_append]at hy⊢;have hlen:=hl _ hy;refine pO (E:=ae) (v:=v) (xs:=xs) λa hv=>?_;subst hv;refine gC (Oq (a:=a) (zs:=xs) rfl z7) λ_ _=>?_;refine go ?_;exact gQ ⟨.slice a xs.length xs.length,xs⟩ hy
def FL{g:bz}{vh vc:vI}{kf:Int×Int->Int×Bool}(hg:fE g)
 (hk:∀p∈bB g,bA prog fn (first++[AX p.2]) captured [] F1 (λ_:Unit=>.tuple ⟨[iV (kf p.2).1,.bool (kf p.2).2]⟩) (λ_=>[]) (λ_=>[]) (λ_=>True)):
 bA prog (.func 309) [.agg ⟨iO g vh vc⟩,.func fn ⟨first⟩ ⟨captured⟩] [] [] (ai ae vh g.holes::ai ae vc g.cells::F1) (λv:vI=>v) (λv=>[ap (ak ae) v (jd g kf)]) (λ_=>[]) (λ_=>True):=by
 have hgl:=hg.len;have hsl:=qK g;refine MM _ (aP 309) λB w0=>?_;refine go ?_;intro b2 b3;refine go ?_;refine y8 jF (λbm=>?_);refine go ?_;intro b5;refine adq ae (b:=bm) (aX:=jF) ?_;refine gC (Ot (g:=g) (vh:=vh) (vc:=vc)) λbs _=>?_;refine go ?_;refine IV (Z:=Nat) (λ(m:kI (Int×kI Int)) (x:Int×(Int×Int))=>(xS kf m x,.normal)) (λm=>[Fg jF ae bm m,pt b5 (.cells [.map (some bm)]),pt b3 (.cells [.func fn ⟨first⟩ ⟨captured⟩])]) (λvs m=>m=jN kf vs) [] _ (λx b8=>[pt b8 (.cells [iV x.2.1,iV x.2.2])]) rfl (λvs s x rest hs _ _=>by rw[hs,Ji]) (Oo (b1:=bs) (vh:=vh) (vc:=vc) hg) GO ?_ ?_ (λ_ _=>trivial)
 .intro vs s x rest b8 lo L B w0 hs hX;dsimp only[List.cons_append,List.nil_append];obtain⟨hc,hvl,hxm⟩:=Jh hX;have hkx:=hk x hxm;have hin:=Ni kf vs.length vs rfl;rw[<- hs]at hin;have hst:xS kf s x=cond (kf x.2).2 (upd (kf x.2).1 ((dR (kf x.2).1 s).getD []++[x.1]) s) s:=rfl;rw[hst];obtain⟨c,s1,s2⟩:=x;dsimp only at hc hkx hst⊢;subst hc;rcases hq:kf (s1,s2)with⟨kn,kb⟩
  rw[hq]at hkx;dsimp only at hkx⊢;refine gC hkx λ_ _=>?_;cases kb with
  |false=>
   dsimp only[cond];refine go ?_;exact kq
  |true=>
   dsimp only[cond];have hln:=hin.2 kn;refine go ?_;refine adr (aX:=jF) (E:=ae) (b:=bm) (m:=s) kn (h:=λaj v hkeys hv=>?_);refine E9 (b:=bm) (aj:=aj) zw kn ?_;rw[hv];refine go ?_;intro b30;refine go ?_;refine TC (xs:=(dR kn s).getD []) ae (vs.length:Int) () z7 (next:=λad=>?_);refine go ?_;refine xN (b:=bm) (v:=.slice ad (((dR kn s).getD []).length+1) (((dR kn s).getD []).length+1)) (aj:=aj) zw kn ?_;refine ads (E:=ae) (v:=.slice ad (((dR kn s).getD []).length+1) (((dR kn s).getD []).length+1)) (xs:=(dR kn s).getD []++[(vs.length:Int)]) kn hkeys ?_;refine go ?_;exact kq
 .intro r xs hX;subst hX;rw[JK (xS kf)];dsimp only[List.cons_append,List.nil_append];rw[show(bB g).foldl (xS kf) []=jN kf (bB g)from rfl];have hin:=Ni kf _ (bB g) rfl;rw[hsl]at hin;have hL:jd g kf=(bW ((jN kf (bB g)).map (·.1))).map λn=>(dR n (jN kf (bB g))).getD []:=rfl;generalize hm:jN kf (bB g)=m at hin hL⊢;refine adt (aX:=jF) (E:=ae) (b:=bm) (m:=m) (λaj hkeys=>?_);have hkl:aj.length=m.length:=by have:=congrArg List.length hkeys;simpa using this
  refine gZ (CK (aX:=jF) (b:=bm) (aj:=aj)) ?_;refine gZ (adu (E:=ae) (aj:=aj) (m:=m) hkeys) ?_;refine gP b5 ?_;refine gC (afS (bm:=bm) (aj:=aj)) λbk _=>?_;refine gC (VT (afT (b:=bk) (bm:=bm) (aj:=aj)) (λxs h=>by have:=h.length_eq;rw[bY]at this;omega)) λy hy=>?_;obtain⟨vk,ks⟩:=y;dsimp only[List.cons_append,List.nil_append]at hy⊢;have hks:bW ks=bW (m.map (·.1)):=Uj (by rw[<- hkeys];exact hy);rw[hks];have hkn:(bW (m.map (·.1))).length=m.length:=by rw[AV,bY]
  have hmem:∀n∈bW (m.map (·.1)),n∈m.map (·.1):=λn h=>uU.1 h;generalize hK:bW (m.map (·.1))=ns at hkn hL hmem⊢;refine gZ (gz (E:=ae) (v:=vk) (xs:=ns)) ?_;refine gF ae vk ns λa c e=>?_;subst e;refine go ?_;refine af5 (ak ae) ?_;refine aU (λy:Nat×vI=>ns.length - y.1) (λy=>[(36,iV (y.1:Int)),(4,y.2)]) (λy=>[ap (ak ae) y.2 ((ns.take y.1).map λn=>(dR n m).getD [])]) (λ_=>[]) (λy=>y.1<=ns.length) (0,.slice none 0 0) (bR _) (hk:=As) (body:=?_);rintro⟨k,v4⟩ hk2;dsimp only at hk2⊢;refine gIf ?_ ?_<;>intro h1
  .refine go ?_;intro _ _ n hn;obtain⟨v,hv⟩:=Fp (a:=n) (l:=aj) (by rw[hkeys];exact hmem n (aZ hn));obtain⟨xs,hxs⟩:=Fp (a:=n) (l:=m) (hmem n (aZ hn));have hlv:kT false (.slice none 0 0) n aj=v:=by unfold kT;rw[hv];rfl
   have htk:(ns.take (k+1)).map (λn=>(dR n m).getD [])=(ns.take k).map (λn=>(dR n m).getD [])++[xs]:=by
    rw[bZ hn,fP,sQ,hxs];rfl
   have hxl:((ns.take k).map (λn=>(dR n m).getD [])).length=k:=GP
   refine eF (ai ae v xs) (λw hw=>hw (TF ae aj m) An n v xs hv hxs) ?_;refine gF ae v xs λa2 c2 e2=>?_;subst e2;refine go ?_;refine Tg (aX:=jF) (b:=bm) (aj:=aj) zw n ?_;rw[hlv];refine go ?_;intro VU;refine go ?_;refine fB (xs:=(ns.take k).map λn=>(dR n m).getD []) (ak ae) xs (.slice a2 xs.length c2) (by rw[hxl];omega) (next:=λad=>?_);rw[<- htk];refine go ?_;exact aN (k+1,.slice ad (((ns.take k).map λn=>(dR n m).getD []).length+1) (((ns.take k).map λn=>(dR n m).getD []).length+1)) (by show ns.length - (k+1)<ns.length - k;omega) AS
  have hke:k=ns.length:=z7
  subst hke;rw[bU,<- hL];refine go ?_;exact IJ v4 (hv:=rfl) (hp:=trivial)
end Go.Proofs.YtoilpafpgndilaaGreat
namespace Go.Proofs.YtoilpafpgndilaaGreat
open Tryz (prog)
open Go.Ideal Kd
abbrev FM(fn:Fn)(first captured:kI vI)(F1:kI aO)(g:bz)(kf:Int×Int->Int×Bool):Prop:=
 ∀p∈bB g,bA prog fn (first++[AX p.2]) captured [] F1 (λ_:Unit=>.tuple ⟨[iV (kf p.2).1,.bool (kf p.2).2]⟩) (λ_=>[]) (λ_=>[]) (λ_=>True)
variable{g:bz}
def afW:FM (.func 310) [] [] [] g (λs=>(s.2,true)):=λp hp=>by
 refine gB 310 λB w0=>?_;refine go ?_;intro b1;exact afN
def afX:FM (.func 311) [] [] [] g (λs=>(s.1,true)):=λp hp=>by
 refine gB 311 λB w0=>?_;refine go ?_;intro b1;exact afN
def afY(hg:fE g):FM (.func 349) [] [] [] g (λs=>(s.1+s.2,true)):=λp hp=>by
 have hb:=Jg hg p hp;obtain⟨c,s1,s2⟩:=p;dsimp only at hb⊢;refine gB 349 λB w0=>?_;refine go ?_;intro b1;exact afN
def afZ(hg:fE g):FM (.func 350) [] [] [] g (λs=>(0,decide (s.1=s.2))):=λp hp=>by
 have hb:=Jg hg p hp;refine gB 350 λB w0=>?_;refine go ?_;intro b1;exact afN
variable{vh vc:vI}
def af0{b:Nat}(hg:fE g):FM (.func 351) [] [ptr' b] [gY b 0 (iO g vh vc)] g (λs=>(0,decide (s.1+s.2=g.w - 1))):=λp hp=>by
 have hb:=Jg hg p hp;obtain⟨c,s1,s2⟩:=p;dsimp only at hb⊢;have hw:=hg.make.wi;refine gB 351 λB w0=>?_;refine go ?_;intro b1;exact afN
def af1(hg:fE g):
 bA prog (.func 312) [.agg ⟨iO g vh vc⟩] [] [] (jq g vh vc) (λv:vI=>v) (λv=>[ap (ak ae) v (lY g)]) (λ_=>[]) (λ_=>True):=by
 refine gB 312 λB w0=>?_;refine go ?_;intro b1;refine gP b1 ?_;refine gIf ?_ ?_<;>intro h1
 .refine gC (FL (kf:=λs=>(s.1+s.2,true)) (vh:=vh) (vc:=vc) hg (afY hg)) λv _=>?_;refine go ?_;exact gQ v trivial (hk:=by unfold lY;rw[if_pos h1];exact aI.all _)
 refine gIf ?_ ?_<;>intro h2
 .refine go ?_;refine af5 (ak ae) ?_;exact gQ (.slice none 0 0) trivial (hk:=by unfold lY;rw[if_neg h1,if_neg h2];exact aI.all _)
 have h2:g.w=g.h:=ic.1 h2;refine gC (FL (kf:=λs=>(0,decide (s.1=s.2))) (vh:=vh) (vc:=vc) hg (afZ hg)) λva _=>?_;refine gC (FL (kf:=λs=>(0,decide (s.1+s.2=g.w - 1))) (vh:=vh) (vc:=vc) hg (af0 (vh:=vh) (vc:=vc) (b:=b1) hg)) λvb _=>?_;have hA:=Nj hg (λs=>(0,decide (s.1=s.2)));have hB:=Nj hg (λs=>(0,decide (s.1+s.2=g.w - 1)));have hD:lY g=jO (jd g (λs=>(0,decide (s.1=s.2)))) (jd g (λs=>(0,decide (s.1+s.2=g.w - 1)))):=by unfold lY;rw[if_neg h1,if_pos h2]
 generalize jd g (λs=>(0,decide (s.1=s.2)))=la at hA hD⊢;generalize jd g (λs=>(0,decide (s.1+s.2=g.w - 1)))=lb at hB hD⊢;have hF:=Uo hA.2 hB.2;refine gZ (gz (E:=ak ae) (v:=vb) (xs:=lb)) ?_;refine gF (ak ae) vb lb λa c e=>?_;subst e;refine go ?_;refine aU (λy:Nat×vI=>lb.length - y.1) (λy=>[(22,iV (y.1:Int)),(3,y.2)]) (λy=>[ap (ak ae) y.2 (jO la (lb.take y.1))]) (λ_=>[]) (λy=>y.1<=lb.length) (0,va) (bR _) (hk:=As) (body:=?_);rintro⟨k,v3⟩ hk2;dsimp only at hk2⊢;have Ow:=hF k;refine gIf ?_ ?_<;>intro h3
 .refine gX (ak ae) (xs:=lb) λ_ _ ln (vl:vI) hl=>?_;have hs:=Un (a:=la) hl;have hll:=hB.2 ln (aZ hl);generalize jO la (lb.take k)=acc at Ow hs⊢;refine pO (E:=ak ae) (v:=v3) (xs:=acc) λa3 e3=>?_;subst e3;refine gF ae vl ln λa4 c4 e4=>?_;subst e4;cases acc with
  |nil=>
   have hs2:jO la (lb.take (k+1))=[]++[ln]:=hs;refine go ?_;intro Ox;refine go ?_;refine fB (xs:=([]:kI (kI Int))) (ak ae) ln (.slice a4 ln.length c4) An (next:=λad=>?_);rw[<- hs2];refine go ?_;exact aN (k+1,.slice ad (([]:kI (kI Int)).length+1) (([]:kI (kI Int)).length+1)) GS AS
  |cons a0 acc=>
   have ha0:=Ow.2 a0 (cB ..);refine go ?_;refine I6 ae 0 a0 rfl (next:=λ_ _ u=>?_);refine gC (Bf (xs:=a0) (ys:=ln) z7) λ_ _=>?_;by_cases h4:a0=ln
   rotate_left
   .rw[aR h4];have hs2:jO la (lb.take (k+1))=(a0::acc)++[ln]:=by rw[hs];unfold uf;rw[if_neg (show¬((a0::acc).head? =some ln)from λe=>h4 (Option.some.inj e))]
    refine go ?_;intro Ox;refine go ?_;refine fB (xs:=a0::acc) (ak ae) ln (.slice a4 ln.length c4) (by have:=Ow.1;omega) (next:=λad=>?_);rw[<- hs2];refine go ?_;exact aN (k+1,.slice ad ((a0::acc).length+1) ((a0::acc).length+1)) GS AS
   .rw[dK h4];have hs2:jO la (lb.take (k+1))=a0::acc:=by rw[hs];unfold uf;rw[if_pos (by rw[h4];rfl)]
    rw[show ap (ak ae) (Value.slice a3 (a0::acc).length (a0::acc).length) (a0::acc)=ap (ak ae) (Value.slice a3 (a0::acc).length (a0::acc).length) (jO la (lb.take (k+1)))from congrArg _ hs2.symm];refine go ?_;exact aN (k+1,.slice a3 (a0::acc).length (a0::acc).length) GS AS
 have hke:k=lb.length:=z7
 subst hke;rw[bU,<- hD];refine go ?_;exact gQ v3 trivial
end Go.Proofs.YtoilpafpgndilaaGreat
namespace Go.Proofs.YtoilpafpgndilaaGreat
open Tryz (prog)
open Go.Ideal Kd
def af2{c:Nat}:fC prog 52 [.slice none 0 c] [] (λ_:Unit=>.slice none 0 0) (λ_=>True):=by
 refine aM Oh VF λB w0=>?_;refine go ?_;refine(fA rfl rfl (Fe (e:=3) Ax rfl)).h ?_;exact afN
def af3{v:vI}{xs:kI Int}(hl:xs.length<=4096):bA prog (.func 52) [v] [] [] [ai ae v xs,I7 v xs] (λv':vI=>v') (λv'=>[ap ae v' xs]) (λ_=>[]) (λ_=>True):=by
 intro B w s;by_cases hx:xs=[]
 .have hv:v=.slice none 0 0:=s.facts (I7 v xs) (cO _ (cB ..)) hx;subst hx hv;refine .vT _ (af2 (c:=0) B w ⟨s.agree,s.le,s.af9,s.own,λf hf=>(by cases hf)⟩) ?_;rintro r pm h' ⟨hp,w',y,e1,st,e2,_⟩;obtain⟨S,q1,q2,q3⟩:=st.own;exact⟨hp,w',.slice none 0 0,e1,⟨st.agree,st.le,st.af9,⟨S,⟨[],S,.inl ⟨rfl,rfl,rfl⟩,q1,rfl⟩,q2,q3⟩,st.facts⟩,e2,trivial⟩
 .obtain⟨aC,h1,h2⟩:=Tn (s.facts (ai ae v xs) (cB ..));have hlen:aC.length=xs.length:=by rw[<- h1,bY]
  refine .vT _ (VH (v:=v) (aC:=aC) z7 B w ⟨s.agree,s.le,s.af9,s.own,λf hf=>by rw[bM.1 hf];exact h2⟩) ?_;rintro r pm h' ⟨hp,w',y,e1,st,e2,_⟩;subst h1;exact⟨hp,w',y,e1,st.TQ (by rw[hlen];exact BK.2 hx) (λp hp f hf=>by cases hf),e2,trivial⟩
abbrev JM(g:bz)(k:Int)(y:Ou):kI aO:=[jr (y.e=0) (ai (ak ae) y.v (dM g k))]
def af4{g:bz}{vh vc:vI}{k:Int}(hS:qP g):
 bA prog (.func 210) [.agg ⟨iO g vh vc⟩,iV k] [] [] (jq g vh vc) wI (λ_=>[]) (λy=>JM g k y) (λy=>y.e=0↔fE g/\0<=k/\k<=7):=by
 refine gB 210 λB w0=>?_;refine go ?_;intro b2;refine gP b2 ?_;refine gC (VN (g:=g) (vh:=vh) (vc:=vc) hS) λy hy=>?_;obtain⟨vn,e⟩:=y;dsimp only at hy⊢;refine gIf ?_ ?_<;>intro h1
 .exact kj
 have he:e=0:=ic.1 h1;subst he;have hg:=hy.1 rfl;have hgl:=hg.len;have hnl:=wm g;have hnm:=Nq (g:=g);refine eF (ai (tY ae) vn (bJ g)) (λw hw=>hw (jr ((0:Int)=0) (ai (tY ae) vn (bJ g))) An rfl) ?_;refine eF (ai (ak ae) vn (bJ g)) (λw hw=>TP (hw (ai (tY ae) vn (bJ g)) An)) ?_;refine gF (ak ae) vn (bJ g) λan cn en=>?_;subst en;refine gIf (λhk=>?_) (λhk0=>?_)
 .subst hk;have hf:dM g 0=kW g.cells.length:=by simp[dM]
  refine go ?_;refine af5 (ak ae) ?_;refine aU (λy:Nat×vI=>g.cells.length - y.1) (λy=>[(31,iV (y.1:Int)),(4,y.2)]) (λy=>[ap (ak ae) y.2 (kW y.1)]) (λ_=>[]) (λy=>y.1<=g.cells.length) (0,.slice none 0 0) (bR _) (hk:=As) (body:=?_);rintro⟨i,v4⟩ hi;dsimp only at hi⊢;have hil:=Jj i;refine gIf ?_ ?_<;>intro h2
  .refine go ?_;intro yj zx;refine aie (A:=pt yj (.cells [iV (i:Int)])) (fs:=[ai ae (.slice (some ⟨yj,0,some 0⟩) 1 1) [(i:Int)]]) (uR (b:=yj) (f:=0) (c:=1) (xs:=[(i:Int)])) (h:=?_);refine go ?_;refine fB (xs:=kW i) (ak ae) [(i:Int)] (.slice (some ⟨yj,0,some 0⟩) 1 1) z7 (next:=λad=>?_);rw[<- Uq];refine go ?_;exact aN (i+1,.slice ad ((kW i).length+1) ((kW i).length+1)) CT AK
  have hie:i=g.cells.length:=z7
  subst hie;refine gZ (gz (E:=ak ae) (v:=v4) (xs:=kW g.cells.length)) ?_;refine go ?_;refine jP (c:=(0:Int)=0) (f:=ai (ak ae) v4 (dM g 0)) AN ?_;exact od
 refine gIf (λhk=>?_) (λhk1=>?_)
 .subst hk;have hf:dM g 1=jd g (λs=>(s.2,true)):=by simp[dM]
  refine gC (FL (kf:=λs=>(s.2,true)) (vh:=vh) (vc:=vc) hg afW) λv4 _=>?_;refine gZ (gz (E:=ak ae) (v:=v4) (xs:=jd g (λs=>(s.2,true)))) ?_;refine go ?_;refine jP (c:=(0:Int)=0) (f:=ai (ak ae) v4 (dM g 1)) AN ?_;exact gQ ⟨v4,0⟩ ⟨λ_=>⟨hg,z7,z7⟩,λ_=>rfl⟩
 refine gIf (λhk=>?_) (λhk2=>?_)
 .subst hk;have hf:dM g 2=jd g (λs=>(s.1,true)):=by simp[dM]
  refine gC (FL (kf:=λs=>(s.1,true)) (vh:=vh) (vc:=vc) hg afX) λv4 _=>?_;refine gZ (gz (E:=ak ae) (v:=v4) (xs:=jd g (λs=>(s.1,true)))) ?_;refine go ?_;refine jP (c:=(0:Int)=0) (f:=ai (ak ae) v4 (dM g 2)) AN ?_;exact gQ ⟨v4,0⟩ ⟨λ_=>⟨hg,z7,z7⟩,λ_=>rfl⟩
 refine gIf (λhk=>?_) (λhk3=>?_)
 .subst hk;have hf:dM g 3=lY g:=by simp[dM]
  refine gC (af1 (vh:=vh) (vc:=vc) hg) λv4 _=>?_;refine gZ (gz (E:=ak ae) (v:=v4) (xs:=lY g)) ?_;refine go ?_;refine jP (c:=(0:Int)=0) (f:=ai (ak ae) v4 (dM g 3)) AN ?_;exact gQ ⟨v4,0⟩ ⟨λ_=>⟨hg,z7,z7⟩,λ_=>rfl⟩
 refine gIf (λhk=>?_) (λhk4=>?_)
 .subst hk;have hf:dM g 4=bJ g:=by simp[dM]
  exact gg
 refine gIf (λhk=>?_) (λhk5=>?_)
 .subst hk;have hf:dM g 5=l5 (bJ g):=by simp[dM]
  generalize bJ g=aQ at hnl hnm hf⊢;refine go ?_;refine af5 (ak ae) ?_;refine aU (λy:Nat×vI=>aQ.length - y.1) (λy=>[(59,iV (y.1:Int)),(4,y.2)]) (λy=>[ap (ak ae) y.2 (l5 (aQ.take y.1))]) (λ_=>[]) (λy=>y.1<=aQ.length) (0,.slice none 0 0) (bR _) (hk:=As) (body:=?_);rintro⟨i,v4⟩ hi;dsimp only at hi⊢;have hil:(l5 (aQ.take i)).length=i:=by rw[Nk,gT];omega
  refine gIf ?_ ?_<;>intro h2
  .refine gX (tY ae) (xs:=aQ) λ_ _ ln (vl:vI) hl=>?_;have hll:=hnm ln (aZ hl);refine gC (af3 (v:=vl) (xs:=ln) z7) λvc2 _=>?_;refine go ?_;intro b67;refine go ?_;refine fB (xs:=ln) ae (i:Int) () z7 (next:=λad=>?_);refine go ?_;have hl1:ln.length+1=(ln++[(i:Int)]).length:=by simp
   rw[hl1];refine ay (Oq (a:=ad) (zs:=ln++[(i:Int)]) rfl AI) (next:=λ_ _=>?_);have hz0:bW (ln++[(i:Int)])≠[]:=λe=>by have:=AV (ln++[(i:Int)]);rw[e]at this;simp at this
   have hfs:=Ur hl;generalize hzz:bW (ln++[(i:Int)])=zs at hfs⊢;refine gZ (gz (E:=ae) (v:=.slice ad (ln++[(i:Int)]).length (ln++[(i:Int)]).length) (xs:=zs)) ?_;refine go ?_;intro b73;refine go ?_;refine fB (xs:=l5 (aQ.take i)) (ak ae) zs (.slice ad (ln++[(i:Int)]).length (ln++[(i:Int)]).length) z7 (next:=λr9=>?_);rw[<- hfs];refine go ?_;exact aN (i+1,.slice r9 ((l5 (aQ.take i)).length+1) ((l5 (aQ.take i)).length+1)) Ix AK
  have hie:i=aQ.length:=z7
  subst hie;rw[bU];refine gZ (gz (E:=ak ae) (v:=v4) (xs:=l5 aQ)) ?_;refine go ?_;refine jP (c:=(0:Int)=0) (f:=ai (ak ae) v4 (dM g 5)) AN ?_;exact od
 refine gIf (λhk=>?_) (λhk6=>?_)
 .subst hk;have hf:dM g 6=ik (bJ g):=by simp[dM]
  generalize bJ g=aQ at hnl hnm hf⊢;have h6:=Np hnm;refine go ?_;refine af5 (ak ae) ?_;refine aU (λy:Nat×vI=>aQ.length - y.1) (λy=>[(80,iV (y.1:Int)),(4,y.2)]) (λy=>[ap (ak ae) y.2 (ik (aQ.take y.1))]) (λ_=>[]) (λy=>y.1<=aQ.length) (0,.slice none 0 0) (bR _) (hk:=As) (body:=?_);rintro⟨i,v4⟩ hi;dsimp only at hi⊢;have hil:=h6 i hi;refine gIf ?_ ?_<;>intro h2
  .refine gX (ak ae) (xs:=aQ) λ_ _ ln (vl:vI) hl=>?_;have hll:=hnm ln (aZ hl);have hfs:=Nn hl;refine gF ae vl ln λa4 c4 e4=>?_;subst e4;refine go ?_;refine aU (λy:Nat×vI=>ln.length - y.1) (λy=>[(87,iV (y.1:Int)),(4,y.2)]) (λy=>[ap (ak ae) y.2 (ik (aQ.take i)++jh i (ln.take y.1))]) (λ_=>[]) (λy=>y.1<=ln.length) (0,v4) (bR _) (hk:=by rw[show ik (aQ.take i)++jh i (ln.take 0)=ik (aQ.take i)from gU _];repeat (first|exact aI.nil|(apply aI.cons;(focus (repeat (first|exact az.here|apply az.there)))))) (body:=?_);rintro⟨j,v5⟩ hj;dsimp only at hj⊢;have hpl:=Nl i (ln.take j);rw[gT]at hpl;have hal:(ik (aQ.take i)++jh i (ln.take j)).length<=2000:=by rw[iH];omega
   refine gIf ?_ ?_<;>intro h3
   .refine go ?_;intro _ _ x hx;have hps:=Us (i:=i) hx;refine gIf ?_ ?_<;>intro h4
    .have Bl:ik (aQ.take i)++jh i (ln.take (j+1))=(ik (aQ.take i)++jh i (ln.take j))++[[(i:Int),x]]:=by rw[hps,if_pos z7,List.append_assoc]
     refine go ?_;intro ym b98;refine aie (A:=pt ym (.cells [iV (i:Int),iV x])) (fs:=[ai ae (.slice (some ⟨ym,0,some 0⟩) 2 2) [(i:Int),x]]) (uR (b:=ym) (f:=0) (c:=2) (xs:=[(i:Int),x])) (h:=?_);refine go ?_;refine fB (xs:=ik (aQ.take i)++jh i (ln.take j)) (ak ae) [(i:Int),x] (.slice (some ⟨ym,0,some 0⟩) 2 2) z7 (next:=λr9=>?_);rw[<- Bl];refine go ?_;exact aN (j+1,.slice r9 ((ik (aQ.take i)++jh i (ln.take j)).length+1) ((ik (aQ.take i)++jh i (ln.take j)).length+1)) ID AW
    .have Bl:ik (aQ.take i)++jh i (ln.take (j+1))=ik (aQ.take i)++jh i (ln.take j):=by rw[hps,if_neg z7,gU]
     exact oR
   have iR:j=ln.length:=z7
   subst iR;rw[bU,<- hfs];refine go ?_;exact aN (i+1,v5) Ix AK
  have hie:i=aQ.length:=z7
  subst hie;rw[bU];refine gZ (gz (E:=ak ae) (v:=v4) (xs:=ik aQ)) ?_;refine go ?_;refine jP (c:=(0:Int)=0) (f:=ai (ak ae) v4 (dM g 6)) AN ?_;exact od
 refine gIf (λhk=>?_) (λhk7=>?_)
 .subst hk;have hf:dM g 7=[upTo' g.cells.length]:=by simp[dM]
  refine go ?_;refine af5 ae ?_;refine aU (λy:Nat×vI=>g.cells.length - y.1) (λy=>[(107,iV (y.1:Int)),(15,y.2)]) (λy=>[ap ae y.2 (upTo' y.1)]) (λ_=>[]) (λy=>y.1<=g.cells.length) (0,.slice none 0 0) (bR _) (hk:=As) (body:=?_);rintro⟨i,v15⟩ hi;dsimp only at hi⊢;have hil:=lZ i;refine gIf ?_ ?_<;>intro h2
  .refine go ?_;intro akL;exact cw
  have hie:i=g.cells.length:=z7
  subst hie;refine gZ (gz (E:=ae) (v:=v15) (xs:=upTo' g.cells.length)) ?_;refine gF ae v15 (upTo' g.cells.length) λa4 c4 e4=>?_;subst e4;refine go ?_;intro JN;refine gP JN ?_;refine eF (ai (ak ae) (Bj JN 1) [upTo' g.cells.length]) (λw hw=>ML (v:=.slice a4 (upTo' g.cells.length).length c4) (hw _ An) (hw _ An)) ?_;refine go ?_;refine jP (c:=(0:Int)=0) (f:=ai (ak ae) (Bj JN 1) (dM g 7)) AN ?_;exact gQ ⟨Bj JN 1,0⟩ ⟨λ_=>⟨hg,z7,z7⟩,λ_=>rfl⟩
 refine go ?_;refine jE (c:=(1:Int)=0) (f:=ai (ak ae) (.slice none 0 0) (dM g k)) z7 ?_;exact gQ ⟨.slice none 0 0,1⟩ ⟨(λh=>by cases h),(λh=>by exfalso;obtain⟨_,q1,q2⟩:=h;omega)⟩
abbrev JO(g:bz)(rs:kI (kI Int))(y:Ou):kI aO:=[jr (y.e=0) (ai (ak ae) y.v (dW g rs))]
def VV{g:bz}{vh vc vr:vI}{rs:kI (kI Int)}(hS:qP g)(hrl:rs.length<2^63)(hrs:∀ps∈rs,ps.length<2^63):
 bA prog (.func 211) [.agg ⟨iO g vh vc⟩,vr] [] [] (ai (ak ae) vr rs::jq g vh vc) wI (λ_=>[]) (λy=>JO g rs y) (λy=>y.e=0↔fE g/\CZ g rs):=by
 refine gB 211 λB w0=>?_;refine gF (ak ae) vr rs λar cr er=>?_;subst er;refine go ?_;intro b2;refine gP b2 ?_;refine gC (VK (g:=g) hS) λe he=>?_;refine gH ?_ ?_<;>intro h1
 rotate_left
 .exact iS
 have hg:=he.1 z7;have hgl:=hg.len;have l6:g.cells.Pairwise (·<·):=DM
 refine gIf ?_ ?_<;>intro h2
 .exact gO
 refine go ?_;refine af5 (ak ae) ?_;refine aU (λy:Nat×vI=>rs.length - y.1) (λy=>[(24,iV (y.1:Int)),(4,y.2)]) (λy=>[ap (ak ae) y.2 (dW g (rs.take y.1))]) (λ_=>[]) (λy=>y.1<=rs.length/\∀ps∈rs.take y.1,zk g ps) (0,.slice none 0 0) ⟨bR _,λps h=>by cases h⟩ (hk:=As) (body:=?_);rintro⟨k,v4⟩ ⟨hk,hall⟩;dsimp only at hk hall⊢;have hkl:(dW g (rs.take k)).length=k:=by unfold dW;rw[bY,gT];omega
 refine gIf ?_ ?_<;>intro h3
 .refine gX (ak ae) (xs:=rs) λ_ _ ps (vp:vI) hps=>?_;have hpm:=aZ hps;have hpl:=hrs ps hpm;have htk:=bZ hps;refine gF ae vp ps λa4 c4 e4=>?_;subst e4;refine go ?_;refine y8 jF (λbm=>?_);refine go ?_;refine af5 ae ?_;refine aU (λy:Nat×vI=>ps.length - y.1) (λy=>[(31,iV (y.1:Int)),(8,y.2)]) (λy=>[ap ae y.2 (eZ g (ps.take y.1)),mpA jF bm (zi (eZ g (ps.take y.1)))]) (λ_=>[]) (λy=>y.1<=ps.length/\(∀p∈ps.take y.1,p∈g.cells)/\(eZ g (ps.take y.1)).Nodup) (0,.slice none 0 0) ⟨bR _,(λp h=>by cases h),yE⟩ (hk:=As) (body:=?_);rintro⟨j,v8⟩ ⟨hj,hmem,hnd⟩;dsimp only at hj hmem hnd⊢;have hjl:(eZ g (ps.take j)).length=j:=by unfold eZ;rw[bY,gT];omega
  have hj2:j<=256:=IF
  refine gIf ?_ ?_<;>intro h4
  .refine go ?_;intro _ _ x hx;have htx:=bZ hx;refine gC (VG (xs:=g.cells) (z:=x) z7 (l6.imp λh=>Int.le_of_lt h)) λy hy=>?_;have hym:=hy.mem l6;obtain⟨c,ok⟩:=y;dsimp only at hym⊢;cases ok with
   |false=>
    refine go ?_;refine jE (c:=(130:Int)=0) (f:=ai (ak ae) (.slice none 0 0) (dW g rs)) z7 ?_;exact gQ ⟨.slice none 0 0,130⟩ ⟨(λh=>by cases h),λh=>by
     have:=hym.2 ((h.2.all ps hpm).mem x (aZ hx));cases this⟩
   |true=>
    have hxm:=hym.1 rfl;have Dg:g.cells[c]? =some x:=hy.2.2.2.1 rfl;have hpos:=Jk l6 Dg;have hr1:eZ g (ps.take (j+1))=eZ g (ps.take j)++[(c:Int)]:=IN
    refine go ?_;refine E9 (aX:=jF) (b:=bm) (aj:=zi (eZ g (ps.take j))) zw (c:Int) ?_;rw[adV];refine gIf ?_ ?_<;>intro h5
    .exact dr
    .refine go ?_;refine xN (aX:=jF) (b:=bm) (v:=.bool true) (aj:=zi (eZ g (ps.take j))) zw (c:Int) ?_;rw[<- Ut,<- hr1];exact cR
  exact cC
 have hke:k=rs.length:=z7
 subst hke;rw[bU]at hall⊢;refine gZ (gz (E:=ak ae) (v:=v4) (xs:=dW g rs)) ?_;refine go ?_;refine jP (c:=(0:Int)=0) (f:=ai (ak ae) v4 (dW g rs)) An ?_;exact gQ ⟨v4,0⟩ ⟨λ_=>⟨hg,z7,hall⟩,λ_=>rfl⟩
