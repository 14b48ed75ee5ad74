/-
  Part LibDW.
-/
import Derived.Test.YtfakljdleblkoaaGreatShelf
import Derived.Test.YtfakljdleblkoaaGreatIdealOW
import Derived.Test.YtfakljdleblkoaaGreatLibCW
set_option linter.all false
set_option maxRecDepth 10000
namespace Go.Proofs.YtfakljdleblkoaaGreat
open Go.Ideal
noncomputable def Nz:=qj Tryz.prog 145
theorem UJ:kU Tryz.prog 145=some Nz:=vA
theorem srt:Mr Tryz.prog 145:=λblk off cap zs w h1 h2 h3=>Any.slices_Sort_int Tryz.lays189 blk off cap zs w h1 h2 h3
end Go.Proofs.YtfakljdleblkoaaGreat
set_option maxHeartbeats 4000000
namespace Go.Proofs.YtfakljdleblkoaaGreat
open Go.Ideal Kd
noncomputable def Jg:=qj Tryz.prog 44
theorem NA:kU Tryz.prog 44=some Jg:=vA
noncomputable def NB:=qj Tryz.prog 174
theorem aeJ:kU Tryz.prog 174=some NB:=vA
variable{x:Int}
theorem aeK:dL Tryz.prog 202 [.int .i64 x] [] (.bool false):=by
 refine aH _ (aN 202) λB w0=>?_;refine go ?_;refine ah () (hv:=?_) (hp:=trivial);rw[aS (λh=>h rfl)];rfl
theorem aeL:dL Tryz.prog 301 [.int .i64 x] [] (.bool false):=by
 refine aH _ (aN 301) λB w0=>?_;refine go ?_;refine ah () (hv:=?_) (hp:=trivial);rw[aS (λh=>h rfl)];rfl
theorem aeM{y:Int}:dL Tryz.prog 281 [.int .i64 x,.int .i64 y] [] (.bool (decide (x<y))):=by
 refine aH _ (aN 281) λB w0=>?_;refine go ?_;refine ax (aeK (x:=x)) (next:=λ_ _=>?_);refine go ?_;exact ah () (hv:=rfl) (hp:=trivial)
def NC(xs:List Int)(z:Int)(y:Nat×Bool):Prop:=y.1<=xs.length/\(∀(j:Nat) x,j<y.1->xs[j]? =some x->x<z)/\(∀(j:Nat) x,y.1<=j->xs[j]? =some x->z<=x)/\(y.2=true↔xs[y.1]? =some z)
variable{xs:List Int}{z:Int}
theorem NC.mem{y:Nat×Bool}(h:NC xs z y)(hs:xs.Pairwise (·<·)):y.2=true↔z∈xs:=by
 obtain⟨h1,h2,h3,h4⟩:=h;rw[h4];refine⟨λh=>aP h,λh=>?_⟩;obtain⟨j,hj⟩:=uW.1 h;have hjl:=(bC.1 hj)
 rcases Nat.lt_trichotomy j y.1 with h5|h5|h5
 ·have:=h2 j z h5 hj;omega
 ·rw[<- h5];exact hj
 ·have hyl:y.1<xs.length:=by have:=hjl.1;omega
  have hy:xs[y.1]? =some xs[y.1]:=bW hyl;have h6:=h3 y.1 _ (bV _) hy;have h7:=zm.1 hs y.1 j hyl hjl.1 h5;rw[hjl.2]at h7;omega
variable{v:Value}
theorem UK(hl:xs.length<4611686018427387904)(hs:xs.Pairwise (·<=·)):
 aU Tryz.prog (.func 258) [v,.int .i64 z] [] [] [ai ae v xs] (λy:Nat×Bool=>.tuple ⟨[.int .i64 (y.1:Int),.bool y.2]⟩) (λ_=>[]) (λ_=>[]) (NC xs z):=by
 refine aH _ (aN 258) λB w0=>?_;refine go ?_;refine aW (λy:Nat×Nat=>y.2 - y.1) (λy=>[(7,.int .i64 (y.1:Int)),(8,.int .i64 (y.2:Int))]) (λ_=>[]) (λ_=>[]) (λy=>y.1<=y.2/\y.2<=xs.length/\(∀(j:Nat) x,j<y.1->xs[j]? =some x->x<z)/\(∀(j:Nat) x,y.2<=j->xs[j]? =some x->z<=x)) (0,xs.length) ⟨bQ _,bV _,λj x hj=>by omega,λj x hj hx=>by have:=(bC.1 hx).1;omega⟩ (body:=?_);rintro⟨a,b⟩ ⟨hab,hb,hlo,hhi⟩;dsimp only at hab hb hlo hhi⊢;refine go ?_;refine az rfl (λh1=>?_) (λh1=>?_)
 ·have K8:a<=(a+b)>>>1/\(a+b)>>>1<b:=by
   rw[OU];omega
  generalize hm:(a+b)>>>1=m at K8;refine go ?_;rw[show(a:Int)+(b:Int)=((a+b:Nat):Int)by omega];refine(fq rfl rfl (Mw (k:=.u64) (m:=((a+b:Nat):Int)) (by kernel_rfl:Tryz.prog.underlying 3=some (.int .i64)) vA rfl (acu vj))).h ?_;refine(fq rfl rfl (acv (a:=a+b) (b:=1) rfl rfl vj)).h ?_;rw[hm];refine(fq rfl rfl (Mw (k:=.i64) (m:=(m:Int)) (by kernel_rfl:Tryz.prog.underlying 167=some (.int .u64)) vA rfl (wrapN vj))).h ?_;refine go ?_;intro _ _ x hx;refine go ?_;refine ax (aeM (x:=x) (y:=z)) (next:=λ_ _=>?_);refine go ?_;have hle:∀(i j:Nat) u v,i<=j->xs[i]? =some u->xs[j]? =some v->u<=v:=by
   intro i j u v hij hu hv;by_cases e:i=j
   ·subst e;rw[hu]at hv;injection hv with hv;omega
   ·exact zm.1 hs i j (bC.1 hu).1 (bC.1 hv).1 vj|>λh=>by
     rw[(bC.1 hu).2,(bC.1 hv).2]at h;exact h
  refine az rfl (λh2=>?_) (λh2=>?_)
  ·refine go ?_;refine aM (m+1,b) (by show b - (m+1)<b - a;omega) ⟨by show m+1<=b;omega,hb,λj u hj hu=>?_,hhi⟩;have:=hle j m u x (by show j<=m;have:j<m+1:=hj;omega) hu hx;omega
  ·refine go ?_;refine aM (a,m) (by show m - a<b - a;omega) ⟨by show a<=m;omega,by show m<=_;omega,hlo,λj u hj hu=>?_⟩;have:=hle m j x u hj hx hu;omega
 have hba:b=a:=vj
 subst hba;refine go ?_;refine gG (λh2=>?_) (λh2=>?_)
 ·have hn:xs[b]? =none:=gJ vj;refine go ?_;exact ah (b,false) (hv:=rfl) (hp:=⟨by show b<=_;omega,hlo,hhi,by show false=true↔xs[b]? =some z;rw[hn];simp⟩)
 refine go ?_;intro _ _ x hx;refine go ?_;by_cases hxz:x=z
 ·subst hxz;rw[eY rfl];refine go ?_;exact ah (b,true) (hv:=rfl) (hp:=⟨by show b<=_;omega,hlo,hhi,by show true=true↔xs[b]? =some x;simp[hx]⟩)
 ·rw[aS hxz];refine go ?_;intro _ _ x2 hx2;refine go ?_;refine ax (aeL (x:=x2)) (next:=λ_ _=>?_);refine go ?_;exact ah (b,false) (hv:=rfl) (hp:=⟨by show b<=_;omega,hlo,hhi,by show false=true↔xs[b]? =some z;rw[hx];simp[hxz]⟩)
theorem UL{aF:List (Int×ae.Y)}(hl:aF.length<=4096):aU Tryz.prog (.func 44) [v] [] [] [rD ae v aF] (λv':Value=>v') (λv'=>[ar ae v' aF]) (λ_=>[]) (λ_=>True):=by
 refine aH Jg NA λB w0=>?_;refine Nr (v:=v) (aF:=aF) ae (λe c ev=>?_) (λe i o f c ev=>?_) (λhne i o f c ev=>?_)
 ·subst e ev;refine go ?_;refine(fq rfl rfl (Ex (e:=3) vA rfl)).h ?_;refine go ?_;refine Ns ae ?_;exact qS
 ·subst e ev;refine go ?_;refine(fq rfl rfl (yK (e:=3) vA rfl)).h ?_;refine go ?_;intro b;refine go ?_;refine Ii (b:=b) ?_;refine go ?_;refine sQ (b:=b) (m:=0) (f:=0) ae (aF:=[]) rfl (.inl rfl) ?_ (hk:=ay.here);exact nB
 ·subst ev;refine go ?_;refine(fq rfl rfl (yK (e:=3) vA rfl)).h ?_;refine go ?_;intro b;refine go ?_;refine Ij (b:=b) ae aF hne vj (λb'=>?_);refine go ?_;refine sQ (b:=b') (m:=aF.length) (f:=ae.n) ae (aF:=aF) rfl (.inr rfl) ?_ (hk:=ay.here);exact ah (.slice (some ⟨b',0,some ae.n⟩) aF.length aF.length) (hv:=rfl) (hp:=trivial)
abbrev ET:List Value:=[.int .i64 0,.int .i64 0,.int .i64 0,.slice none 0 0,.slice none 0 0]
abbrev iH(g:bz)(vh vc:Value):List Value:=[.int .i64 g.shape,.int .i64 g.w,.int .i64 g.h,vh,vc]
abbrev jk(g:bz)(vh vc:Value):List aK:=[ai ae vh g.holes,ai ae vc g.cells]
structure ND where
 ok:Bool
 vh:Value
 vc:Value
def vX(s w h:Int)(holes:List Int):bz:=⟨s,w,h,holes,l5 w h holes⟩
abbrev mkV(s w h:Int)(holes:List Int)(y:ND):Value:=.tuple ⟨[.agg ⟨cond y.ok (iH (vX s w h holes) y.vh y.vc) ET⟩,.int .i64 (cond y.ok 0 130)]⟩
abbrev oU(s w h:Int)(holes:List Int)(y:ND):List aK:=cond y.ok (jk (vX s w h holes) y.vh y.vc) []
def xC(xs:List Int):Int:=xs.getLast?.getD (-1)
theorem UM(xs:List Int)(x:Int):xC (xs++[x])=x:=by simp[xC]
theorem aeN(h:∀x∈xs,0<=x): -1<=xC xs:=by
 unfold xC;cases hx:xs.getLast? with
 |none=>simp
 |some x=>
  have:=h x (List.mem_of_getLast? hx);simp only[uT];omega
theorem UN(h:xs.Pairwise (·<·)){a:Int}(ha:a∈xs):a<=xC xs:=by
 unfold xC;cases hx:xs.getLast? with
 |none=>rw[List.getLast?_eq_none_iff]at hx;subst hx;cases ha
 |some x=>
  obtain⟨ys,rfl⟩:=List.getLast?_eq_some_iff.1 hx;simp only[uT];rcases dW.1 ha with h1|h1
  ·have:=(JY.1 h).2.2 a h1 x (bK.2 rfl);omega
  ·rw[bK.1 h1];exact Int.le_refl _
theorem aeO{k:Nat}(h:xs.Pairwise (·<·))(hx:xs[k]? =some x)(h0:0<=x):xC (xs.take k)<x:=by
 unfold xC;cases hl:(xs.take k).getLast? with
 |none=>simp only[Option.getD_none];omega
 |some y=>
  simp only[uT];have hy:=List.mem_of_getLast? hl;have hd:xs=xs.take k++x::xs.drop (k+1):=by
   conv=>lhs;rw[<- uU k xs]
   rw[wz (bC.1 hx).1,(bC.1 hx).2]
  rw[hd]at h;exact(JY.1 h).2.2 y hy x (cZ ..)
theorem NE{s w h:Int}{holes:List Int}{vh:Value}(hw64:j5 w)(aeP:j5 h)(hl:holes.length<4611686018427387904):
 aU Tryz.prog (.func 174) [.int .i64 s,.int .i64 w,.int .i64 h,vh] [] [] [ai ae vh holes] (mkV s w h holes) (λ_=>[]) (oU s w h holes) (λy=>y.ok=true↔om s w h holes):=by
 have bad:¬om s w h holes->∀{B:List Nat} {w0:Wd} {kl:List OA} {F:List aK} {l:List (Nat×Value)} {n b:Nat} {bG:List OA},lk l 8=ptr' b->lk l 9=.int .i64 130->ay (pt b (.cells ET)) kl bG->
  R (λh0=>BF NB (Go.Ideal.Left B w0 (mkV s w h holes) (λ_=>[]) (oU s w h holes) (λy=>y.ok=true↔om s w h holes)) .ret (act n l [] none none) h0) B w0 kl F:=by
  intro hno B w0 kl F l n b bG h8 h9 hk;refine Rn (bG:=kl) ⟨false,.nilFunc,.nilFunc⟩ (vs:=[.agg ⟨ET⟩,.int .i64 130]) ?_ rfl ⟨(λe=>by cases e),λe=>absurd e hno⟩ .nil .nil (.inr rfl);show RS l kl [.qg 5 8,.tmp 9] _;exact .qg h8 hk rfl (.tmp h9 .nil)
 refine aH NB aeJ λB w0=>?_;refine go ?_;intro b8;refine go ?_;by_cases hsh:s=1\/s=2
 rotate_left
 ·rw[eY (show s≠1 from λe=>hsh (.inl e))];refine go ?_;rw[eY (show s≠2 from λe=>hsh (.inr e))];refine go ?_;exact bad (λh=>hsh h.sh) rfl rfl .here
 have hmk:∀sh,(sh=1\/sh=2)->(om sh w h holes↔om s w h holes):=λsh e=>⟨λq=>⟨hsh,q.wi,q.he,q.len,q.inc,q.mem⟩,λq=>⟨e,q.wi,q.he,q.len,q.inc,q.mem⟩⟩
 have h22:∀{B:List Nat} {w0:Wd} {kl:List OA} {F:List aK} {K:KO} {ds:List Tmp} {rest:List bT} {n:Nat} {l:List (Nat×Value)} {D:List Deferred},
  R (λh0=>aG Tryz.prog ds rest (act n ((22,.bool false)::(21,.bool false)::l) D none none) h0 K) B w0 kl F->R (λh0=>aG Tryz.prog ds rest (act n ((22,.bool false)::(21,.bool false)::l) D none none) h0 K) B w0 kl F:=λh=>h
 rcases hsh with rfl|rfl;all_goals
  refine go ?_;refine gG (λa1=>?_) (λa1=>?_)
  rotate_left
  ·exact tG
  refine go ?_;refine gG (λa2=>?_) (λa2=>?_)
  rotate_left
  ·exact tG
  refine go ?_;refine gG (λa3=>?_) (λa3=>?_)
  rotate_left
  ·exact tI
  refine go ?_;refine gG (λa4=>?_) (λa4=>?_)
  rotate_left
  ·exact tI
  have hwh:=vH (w:=w) (h:=h) ⟨vj,vj⟩ ⟨vj,vj⟩;refine go ?_;refine az rfl (λa5=>?_) (λa5=>?_)
  ·refine go ?_;exact bad (λq=>by have:=q.len;omega) rfl rfl .here
  refine go ?_;refine aW (λk=>holes.length - k) (λk:Nat=>[(49,.int .i64 (k:Int)),(10,.int .i64 (xC (holes.take k)))]) (λ_=>[]) (λ_=>[]) (λk=>k<=holes.length/\(holes.take k).Pairwise (·<·)/\∀x∈holes.take k,0<=x/\x<w*h) 0 ⟨bQ _,vm,vm⟩ (body:=?_);rintro k ⟨hk,lM,hmem⟩;refine go ?_;refine az rfl (λa6=>?_) (λa6=>?_)
  ·refine go ?_;intro _ _ x hx;refine go ?_;have hxm:=aP hx;refine gG (λa7=>?_) (λa7=>?_)
   rotate_left
   ·refine go ?_;exact bad (λq=>by
     have h1:=q.inc;have h2:=q.mem x hxm;have:=aeO h1 hx h2.1;omega) rfl rfl .here
   refine go ?_;refine az rfl (λa8=>?_) (λa8=>?_)
   ·refine go ?_;exact bad (λq=>by have:=q.mem x hxm;omega) rfl rfl .here
   refine go ?_;have htk:holes.take (k+1)=holes.take k++[x]:=by rw[nE,hx];rfl
   refine aM (k+1) vj ⟨vj,?_,?_⟩ (hl:=⟨rfl,by rw[htk,UM];rfl,by repeat (first|exact trivial|refine⟨rfl,?_⟩)⟩)
   ·rw[htk,JY];refine⟨lM,vm,λa ha b hb=>?_⟩;rw[bK.1 hb];have:=UN lM ha;omega
   ·rw[htk];intro z hz;rcases dW.1 hz with hz|hz
    ·exact hmem z hz
    ·rw[bK.1 hz];have:=aeN (λy hy=>(hmem y hy).1);omega
  have hkl:k=holes.length:=vj
  subst hkl;rw[bJ]at lM hmem;have hok:∀s',(s'=1\/s'=2)->om s' w h holes:=λs' hs'=>⟨hs',⟨vj,vj⟩,⟨vj,vj⟩,vj,lM,hmem⟩
  obtain⟨m,hm⟩:=iO (show 0<=w*h by omega);have EU:l5 w h holes=gp m holes:=by
   unfold l5;rw[hm];rfl
  refine go ?_;refine Ig ae vh (λxh hxh=>?_);have hxl:xh.length=holes.length:=by rw[<- hxh,cz]
  refine ax (UL (aF:=xh) vj) (next:=λv1 _=>?_);refine Ih (E:=ae) (v:=v1) (aF:=xh) ?_ (λw h p hp f hf=>by cases hf);rw[hxh];refine aT (E:=ae) (v:=v1) (xs:=holes) vm λa1 c1 e1=>?_;subst e1;refine go ?_;rw[hm];refine gH ae ?_;refine aW (λy:Nat×Option Addr=>m - y.1) (λy=>[(75,.int .i64 (y.1:Int))]) (λy=>[pt b8 (.cells [.int .i64 _,.int .i64 w,.int .i64 h,.slice a1 holes.length c1,.slice y.2 (gp y.1 holes).length (gp y.1 holes).length]),ap ae (.slice y.2 (gp y.1 holes).length (gp y.1 holes).length) (gp y.1 holes)]) (λ_=>[]) (λy=>y.1<=m) (0,none) (bQ _) (hk:=we) (body:=?_);rintro⟨k,ad⟩ hk;dsimp only at hk⊢;have hcl:=Cg k holes;refine go ?_;refine az rfl (λa9=>?_) (λa9=>?_)
  ·refine go ?_;refine ax (UK (xs:=holes) (z:=(k:Int)) hl (lM.imp (λh=>Int.le_of_lt h))) (next:=λy hy=>?_);have hmm:=hy.mem lM;clear hy;obtain⟨n,b⟩:=y;dsimp only at hmm;refine go ?_;cases b with
   |true=>
    refine go ?_;have e1:gp (k+1) holes=gp k holes:=by rw[Iy,if_pos (hmm.1 rfl),iI]
    rw[<- e1];exact aM (k+1,ad) BT BW
   |false=>
    have hnm:¬(k:Int)∈holes:=λh=>by have:=hmm.2 h;cases this
    have e1:gp k holes++[(k:Int)]=gp (k+1) holes:=by rw[Iy,if_neg hnm]
    have e2:(gp k holes).length+1=(gp (k+1) holes).length:=by rw[<- e1];simp
    refine go ?_;intro b89;refine go ?_;refine fw ae (xs:=gp k holes) (k:Int) () vj λad'=>?_;rw[e1,e2];refine go ?_;exact aM (k+1,ad') BT BW
  have hkm:k=m:=vj
  subst hkm;refine go ?_;refine bi fQ (A:=ap ae (.slice ad (gp k holes).length (gp k holes).length) (gp k holes)) (h:=?_);refine go ?_;refine ah ⟨true,.slice a1 holes.length c1,.slice ad (gp k holes).length (gp k holes).length⟩ (hv:=rfl) (hp:=⟨λ_=>hok _ (by first|exact .inl rfl|exact .inr rfl),λ_=>rfl⟩) (hF:=?_);show Sub [ai ae _ holes,ai ae _ (l5 w h holes)] _;rw[EU];exact .cons vm (.cons vm .nil)
end Go.Proofs.YtfakljdleblkoaaGreat
namespace Go.Proofs.YtfakljdleblkoaaGreat
open Go.Ideal Kd
structure qC(g:bz):Prop where
 w:j5 g.w
 h:j5 g.h
 holes:g.holes.length<4611686018427387904
 cells:g.cells.length<4611686018427387904
variable{g:bz}{vh vc:Value}
theorem UO(hS:qC g):
 aU Tryz.prog (.func 259) [.agg ⟨iH g vh vc⟩] [] [] (jk g vh vc) (λe:Int=>.int .i64 e) (λ_=>[]) (λ_=>[]) (λe=>e=0↔eD g):=by
 refine aH _ (aN 259) λB w0=>?_;refine go ?_;intro b1;refine go ?_;refine ax (NE (s:=g.shape) (w:=g.w) (h:=g.h) (holes:=g.holes) (vh:=vh) hS.w hS.h hS.holes) (next:=λy hy=>?_);obtain⟨ok,v1,v2⟩:=y;cases ok with
 |false=>
  exact gA
 |true=>
  have hmk:=hy.1 rfl;dsimp only[mkV,oU,cond,jk,vX,List.cons_append,List.nil_append];refine go ?_;intro b3;refine go ?_;refine ax (uH (xs:=l5 g.w g.h g.holes) (ys:=g.cells) (by
   exact tg)) (next:=λ_ _=>?_)
  exact gx
abbrev aeS(x:Int×(Int×Int)):List Value:=[.int .i64 x.1,Ad x.2]
theorem NF{b1:Nat}(hg:eD g):yJ Tryz.prog aeS (.func 302) [] [ptr' b1] [fA b1 0 (iH g vh vc),ai ae vc g.cells] (λxs=>xs=bB g):=by
 intro S inv ok step s0 Eu y1 y2 F' h0 hok hy;have hgl:=hg.len;have lq:=hg.make.wi;rw[fM,fM,dX];refine aH _ (aN 302) λB w0=>?_;refine go ?_;refine aW (λy:Nat×S=>g.cells.length - y.1) (λy=>[(10,.int .i64 (y.1:Int))]) (λy=>inv y.2) (λ_=>[]) (λy=>y.1<=g.cells.length/\ok ((bB g).take y.1) y.2/\lX step y.2 ((bB g).drop y.1)=lX step s0 (bB g)) (0,s0) ⟨bQ _,h0,rfl⟩ (body:=?_);rintro⟨k,s⟩ ⟨hk,hos,hrun⟩;dsimp only at hk hos hrun⊢;refine go ?_;refine az rfl (λh1=>?_) (λh1=>?_)
 ·refine go ?_;intro _ _ x hx;have hxb:=hg.cell x (aP hx);have hsp:=xm hx;have hd:(bB g).drop k=((k:Int),nC g x)::(bB g).drop (k+1):=by
   rw[wz (by rw[pM];omega)];congr 1;rw[bW (by rw[pM];omega)]at hsp;exact Option.some.inj hsp
  have hX:(bB g).take k++((k:Int),nC g x)::(bB g).drop (k+1)=bB g:=by rw[<- hd,uU]
  refine go ?_;refine(fq rfl rfl (L8 (a:=x) (b:=g.w) rfl rfl vj)).h ?_;refine go ?_;have hq:0<=x.tdiv g.w/\x.tdiv g.w<=x:=by
   rw[tQ hxb.1];exact⟨JX hxb.1 vj,Int.ediv_le_self _ hxb.1⟩
  have hr:0<=x.tmod g.w/\x.tmod g.w<=x:=by
   rw[CW hxb.1];refine⟨Int.emod_nonneg _ vj,?_⟩;have:=OY x g.w;have h3:0<=g.w*(x/g.w):=Int.mul_nonneg vj (JX hxb.1 vj);omega
  refine(fq rfl rfl (Hy (a:=x) (b:=g.w) rfl rfl vj vj vj)).h ?_;refine go ?_;refine az rfl (λh2=>?_) (λh2=>?_)
  ·have hso:nC g x=(x.tmod g.w - (x.tdiv g.w).tdiv 2,x.tdiv g.w):=by unfold nC;rw[if_pos h2]
   have hq2:0<=(x.tdiv g.w).tdiv 2/\(x.tdiv g.w).tdiv 2<=x.tdiv g.w:=by
    rw[tQ hq.1];omega
   rw[hso]at hX hd;have Ar:=hy _ s _ _ hos hX;refine go ?_;refine(fq rfl rfl (Hy (a:=x.tdiv g.w) (b:=2) rfl rfl vj vj vj)).h ?_;exact dc
  ·have hso:nC g x=(x.tmod g.w,x.tdiv g.w):=by unfold nC;rw[if_neg h2]
   rw[hso]at hX hd;have Ar:=hy _ s _ _ hos hX;exact dc
 have hkl:k=(bB g).length:=by rw[pM];omega
 rw[hkl,ajs]at hrun;refine go ?_;exact ah (bB g) (hv:=rfl) (hp:=rfl) (hk:=B6)
end Go.Proofs.YtfakljdleblkoaaGreat
namespace Go.Proofs.YtfakljdleblkoaaGreat
open Go.Ideal Kd
theorem UQ:zQ (pu Tryz.prog qi pz):=BD _ _ _ (λf q h v h' hm=>by cases hm)
theorem aeT(h:IH)(K:BR):(Bh (pu Tryz.prog qi pz) 1000).call ⟨.func 148,[.int .u64 0],[],none⟩ h K=K (.ok (.int .i64 0)) none h:=vA
theorem aeU:dL Tryz.prog 148 [.int .u64 0] [] (.int .i64 0):=λB w s=>by
 have h2:=aeT w.h λr pm h'=> @decide (pm=none/\r=.ok (.int .i64 0)/\h'=w.h) (Classical.propDecidable _);have h1:=Gu UQ (h2.trans (@eY _ (Classical.propDecidable _) ⟨rfl,rfl,rfl⟩));refine .qY _ h1 λr pm h' hg=>?_;obtain⟨rfl,rfl,rfl⟩:= @gQ _ (Classical.propDecidable _) hg;exact⟨rfl,w,(),rfl,s,rfl,trivial⟩
variable{a:Option Addr}{c:Nat}
theorem aeV:dL Tryz.prog 275 [.slice a 0 c,.int .i64 0,.int .i64 0] [] (.tuple ⟨[]⟩):=by
 refine aH _ (aN 275) λB w0=>?_;refine go ?_;refine oh ?_;refine go ?_;exact ah () (hv:=rfl) (hp:=trivial)
theorem aeW:dL Tryz.prog 203 [.slice a 0 c,.int .i64 0,.int .i64 0,.int .i64 0] [] (.tuple ⟨[]⟩):=by
 refine aH _ (aN 203) λB w0=>?_;refine go ?_;refine oh ?_;refine go ?_;refine ax (aeV (a:=a) (c:=c)) (next:=λ_ _=>?_);refine go ?_;exact ah () (hv:=rfl) (hp:=trivial)
theorem aeX:dL Tryz.prog 145 [.slice a 0 c] [] (.tuple ⟨[]⟩):=by
 refine aH Nz UJ λB w0=>?_;refine go ?_;refine(fq rfl rfl (Mw (k:=.u64) (m:=0) (by kernel_rfl:Tryz.prog.underlying 3=some (.int .i64)) vA rfl wg)).h ?_;refine ax aeU (next:=λ_ _=>?_);refine go ?_;refine ax (aeW (a:=a) (c:=c)) (next:=λ_ _=>?_);refine go ?_;exact ah () (hv:=rfl) (hp:=trivial)
theorem aeY:∃fn body,Tryz.prog.funcs[145]? =some fn/\fn.body=some body/\fn.name≠ "runtime.NumGoroutine" :=by
 obtain⟨fn,h1,h2⟩:=UQ.fn 145 Nz UJ;have h3:Tryz.prog.funcs[145]? =some fn:=h1;have h4:(fn.name== "runtime.NumGoroutine")=false:=by
  have e:(Tryz.prog.funcs[145]?).map (λf=>f.name== "runtime.NumGoroutine")=some false:=vA
  rw[h3]at e;exact Option.some.inj e
 have h5:fn.body.isSome=true:=by
  have e:(Tryz.prog.funcs[145]?).map (λf=>f.body.isSome)=some true:=vA
  rw[h3]at e;exact Option.some.inj e
 obtain⟨body,hb⟩:=akR.1 h5;exact⟨fn,body,h3,hb,by simpa using h4⟩
theorem Jh{m:Nat}{zs:List Int}(hm:m=zs.length)(hl:zs.length<4611686018427387904):
 aU Tryz.prog (.func 145) [.slice a m m] [] [ap ae (.slice a m m) zs] [] (λ_:Unit=>.tuple ⟨[]⟩) (λ_=>[ap ae (.slice a m m) (bM zs)]) (λ_=>[]) (λ_=>True):=by
 subst hm;obtain⟨fn,body,h1,h2,h3⟩:=aeY;by_cases hz:zs=[]
 ·subst hz;have e:bM []=[]:=by simp[bM]
  rw[e];intro B w s;obtain⟨S1,s1,back⟩:=s.H9 (k1:=[]) (bG:=[ap ae (.slice a 0 0) []]) (F1:=[]) .nil .nil;refine .qY _ (aeX (a:=a) (c:=0) S1 w s1) ?_;exact rI
 ·exact ach srt h1 h2 h3 (AX.2 hz) hl
theorem UR:rC Tryz.prog 246 Ad:=acz (e:=3) vA vA vA (λa b=>by kernel_rfl)
variable{g:bz}{vh vc:Value}
theorem NG:aU Tryz.prog (.func 260) [.agg ⟨iH g vh vc⟩] [] [] (jk g vh vc) (λb:Nat=>.func (.func 302) #[] #[ptr' b]) (λ_=>[]) (λb=>[fA b 0 (iH g vh vc),ai ae vc g.cells]) (λ_=>True):=by
 refine aH _ (aN 260) λB w0=>?_;refine go ?_;intro b1;refine go ?_;refine bi (dR (b:=b1)) (h:=?_);exact ah b1 (hv:=rfl) (hp:=trivial)
def mQ(c:Prop)(f:aK):aK:=⟨λw=>c->f.p w,λa h e=>f.mono a (h e)⟩
variable{B:List Nat}{w0:Wd}{kl:List OA}{F:List aK}{Q:IH->Prop}{f:aK}
theorem mg{c:Prop}(hc:¬c)(h:R Q B w0 kl (mQ c f::F)):R Q B w0 kl F:=fK (mQ c f) (λw _ e=>absurd e hc) h
theorem lu{c:Prop}(hf:f∈F)(h:R Q B w0 kl (mQ c f::F)):R Q B w0 kl F:=fK (mQ c f) (λw hw _=>hw f hf) h
structure NH where
 v:Value
 e:Int
abbrev vY(y:NH):Value:=.tuple ⟨[y.v,.int .i64 y.e]⟩
theorem Ji{S α:Type}(f:S->α->S):∀(xs:List α) (s:S),oL (λs x=>(f s x,Out.normal)) s xs=(xs.foldl f s,.normal)
 |[],s=>rfl
 |x::xs,s=>by
  show oL (λs x=>(f s x,Out.normal)) (f s x) xs=_;rw[Ji f xs];rfl
section
variable {P:Program} {B:List Nat} {w0:Wd} {kl kl':List OA} {F:List aK} {Q:IH->Prop}
theorem aeZ{b:Nat}{cs cs':List Value}(e:cs=cs')(h:R Q B w0 (pt b (.cells cs')::kl') F)(hk:ay (pt b (.cells cs)) kl kl':=by exact iw):R Q B w0 kl F:=by
 subst e;exact λw s=>h w (s.gK hk)
theorem pV{α:Type}{E:Enc α}{v:Value}{xs:List α}(h:∀a,v=.slice a xs.length xs.length->R Q B w0 kl F)(hk:ay (ap E v xs) kl kl':=by exact iw):R Q B w0 kl F:=λw s=>by
 obtain⟨S,⟨S1,S2,q,_⟩,_⟩:=(s.gK hk).own;obtain⟨a,e⟩:=LX q;exact h a e w s
end
abbrev Au(b n:Nat):Value:=.slice (some ⟨b,0,some 0⟩) n n
theorem UT(hS:qC g):
 aU Tryz.prog (.func 175) [.agg ⟨iH g vh vc⟩] [] [] (jk g vh vc) vY (λ_=>[]) (λy=>[mQ (y.e=0) (ai (sV ae) y.v (bI g))]) (λy=>y.e=0↔eD g):=by
 refine Mg _ (aN 175) λB w0=>?_;refine go ?_;intro b1 b2;refine go ?_;refine ax (UO (g:=g) hS) (next:=λe he=>?_);refine go ?_;refine az rfl (λh1=>?_) (λh1=>?_)
 ·refine go ?_;refine mg (c:=(130:Int)=0) (f:=ai (sV ae) (.slice none 0 0) (bI g)) vj ?_;exact H6 ⟨.slice none 0 0,130⟩ (hv:=rfl) (hp:=⟨(λh=>by cases h),λh=>absurd (he.2 h) h1⟩)
 have hg:=he.1 vj;have hgl:=hg.len;have hsb:=IB hg;have hsl:=pM g;refine go ?_;intro b4 b5;refine go ?_;refine RB (bG:=[pt b4 (.cells Ch),pt b2 (.cells [.slice none 0 0]),pt b1 (.cells (iH g vh vc))]) [] (λ_:Unit=>[]) (λ_=>[pt b5 (.cells [.int .i64 (dP g:Int)])]) (λ_=>[]) (λ_=>True) (hx:=?_) (hy:=?_)
 ·refine az rfl (λh2=>?_) (λh2=>?_)
  ·refine go ?_;rw[show(4:Int)=(dP g:Int)by unfold dP;rw[if_pos h2];rfl];exact H7 () trivial
  ·refine go ?_;rw[show(6:Int)=(dP g:Int)by unfold dP;rw[if_neg h2];rfl];exact H7 () trivial
 intro _ _;refine go ?_;refine yH Ad (λbm=>?_);refine go ?_;intro b6;refine go ?_;refine ax (NG (g:=g) (vh:=vh) (vc:=vc)) (next:=λbs _=>?_);refine go ?_;refine Ie (Z:=Nat) (λ(m:List ((Int×Int)×Value)) (x:Int×(Int×Int))=>(upd x.2 (.int .i64 x.1) m,.normal)) (λm=>[gI Ad bm m,pt b6 (.cells [.map (some bm)])]) (λvs m=>m=fo vs) [] _ (λx b8=>[pt b8 (.cells [.int .i64 x.2.1,.int .i64 x.2.2])]) rfl (λvs s x rest hs _ _=>by rw[hs,MM]) (NF (b1:=bs) (vh:=vh) (vc:=vc) hg) B7 ?_ ?_ (λ_ _=>trivial)
 ·intro vs s x rest b8 lo L B w0 hs hX;dsimp only[List.cons_append,List.nil_append];refine go ?_;refine wY UR x.2 (v:=.int .i64 x.1) ?_;refine go ?_;exact jz
 intro r1 xs hxs;subst hxs;rw[Ji (λ(m:List ((Int×Int)×Value)) (x:Int×(Int×Int))=>upd x.2 (.int .i64 x.1) m)];dsimp only[List.cons_append,List.nil_append];rw[show(bB g).foldl (λ(m:List ((Int×Int)×Value)) (x:Int×(Int×Int))=>upd x.2 (.int .i64 x.1) m) []=fo (bB g)from rfl];refine bi (BX (b:=bm)) (h:=?_);refine bi (dR (b:=b6)) (h:=?_);refine go ?_;refine Mh g.cells.length ⟨vj,vj,vj⟩ λbl=>?_;rw[show zeros [.slice none 0 0] g.cells.length=List.replicate g.cells.length (.slice none 0 0)from QW _ _];refine acJ (kY ae) (x0:=([]:List Int)) (λw=>⟨.inl ⟨rfl,rfl,rfl⟩,λ_=>rfl⟩) (h:=?_);refine go ?_;refine ax (NG (g:=g) (vh:=vh) (vc:=vc)) (next:=λbs2 _=>?_);refine go ?_;refine bi (dR (b:=b4)) (h:=?_);refine bi (dR (b:=b5)) (h:=?_);have hml:(dZ.take (dP g)).length=dP g:=by rw[ig];show min (dP g) 6=_;have:=Ag g;omega
 refine fK (ai MN (.slice (some ⟨b4,0,some 0⟩) (dP g) 6) (dZ.take (dP g))) (λw h=>acW (h (fA b4 0 Ch) (dA _ (cZ ..))) (Ag g)) ?_;refine Ie (Z:=Nat) (λ(xss:List (List Int)) (x:Int×(Int×Int))=>(xss.set x.1.toNat (lJ g x),.normal)) (λxss=>[nM (kY ae) bl xss,pt b2 (.cells [Au bl g.cells.length])]) (λvs xss=>xss=vs.map (lJ g)++List.replicate (g.cells.length - vs.length) []) (List.replicate g.cells.length []) _ (λx b10=>[pt b10 (.cells [.int .i64 x.2.1,.int .i64 x.2.2])]) vm (λvs s x rest hs hX _=>by
  have h1:=IC hX;rw[hs,h1.1];have:=Tq (A:=vs.map (lJ g)) (n:=g.cells.length) (by rw[cz];exact h1.2.1) (lJ g x);rw[cz]at this;rw[gy,this,fD,iE];rfl) (NF (b1:=bs2) (vh:=vh) (vc:=vc) hg) B7 ?_ ?_ (λ_ _=>trivial)
 ·intro vs xss x rest b10 lo L B w0 hs hX;dsimp only[List.cons_append,List.nil_append];obtain⟨hc,hvl,hxm⟩:=IC hX;have hbx:=hsb x hxm;obtain⟨c,s1,s2⟩:=x;dsimp only at hc hbx;subst hc;have hxk:xss[vs.length]? =some []:=by
   rw[hs,qa vm,cz,ww,OT,if_pos vj]
  have hxl:xss.length=g.cells.length:=by rw[hs];simp;omega
  refine go ?_;refine(fq rfl rfl (acZ (m:=dP g) rfl rfl (Ag g))).h ?_;refine go ?_;refine Iq (A:=nM (kY ae) bl xss) (A':=nM (kY ae) bl (xss.set vs.length (fT (fo (bB g)) (s1,s2) ((dZ.take (dP g)).take 0)))) (congrArg (nM (kY ae) bl) (by
   apply jv;intro i;rw[o9];by_cases hi:vs.length=i
   ·subst hi;rw[if_pos rfl,if_pos vj,hxk];rfl
   ·rw[if_neg hi])) ?_
  refine aW (λj=>dP g - j) (λj:Nat=>[(47,.int .i64 (j:Int))]) (λj=>[nM (kY ae) bl (xss.set vs.length (fT (fo (bB g)) (s1,s2) ((dZ.take (dP g)).take j)))]) (λ_=>[]) (λj=>j<=dP g) 0 (bQ _) (body:=?_);intro j hj;refine go ?_;refine az rfl (λh2=>?_) (λh2=>?_)
  ·refine go ?_;obtain⟨dd,hd⟩:∃dd,(dZ.take (dP g))[j]? =some dd:=⟨_,bW vj⟩
   have hdb:=acX dd (OH (aP hd));have hdv:jd (jE Ch (j*2)) 2=some [.int .i64 dd.1,.int .i64 dd.2]:=acY (j:=j) (d:=dd) (by rw[tO]at hd;split at hd;exact hd;cases hd)
   have hnr:=acV (fo (bB g)) (s1,s2) ((dZ.take (dP g)).take j) dd;rw[<- bU hd]at hnr;have hnl:=IA (fo (bB g)) (s1,s2) ((dZ.take (dP g)).take j);have hjm:=Ag g;rw[ig]at hnl;obtain⟨d1,d2⟩:=dd;dsimp only at hdb hdv hnr;refine(Re (o:=0) (j:=j*2) (cs:=Ch) rfl rfl rfl (dA _ (dA _ (cZ ..))) hdv).h ?_;refine go ?_;intro b12;refine go ?_;refine(fq rfl rfl (BJ (a:=s1) (b:=d1) rfl rfl vj vj)).h ?_;refine go ?_;refine(fq rfl rfl (BJ (a:=s2) (b:=d2) rfl rfl vj vj)).h ?_;refine go ?_;refine Uz UR (s1+d1,s2+d2) (λv hv hm=>?_) (λhm=>?_)
   ·obtain⟨c,rfl,hc⟩:=Tp _ _ hv;rw[hv]at hnr;refine go ?_;refine SE (kY ae) (b:=bl) (xss:=xss.set vs.length (fT (fo (bB g)) (s1,s2) ((dZ.take (dP g)).take j))) (k:=vs.length) (xs:=fT (fo (bB g)) (s1,s2) ((dZ.take (dP g)).take j)) (by rw[o9,if_pos rfl,if_pos vj]) (h:=λws v EW hv2=>?_);rw[uX]at EW;refine SG ae v (fT (fo (bB g)) (s1,s2) ((dZ.take (dP g)).take j)) (λhz=>?_);refine rA (o:=0+vs.length*1) (cs:=ws) v (by rw[fC,uV];exact hv2) ?_;refine go ?_;intro b43;refine go ?_;refine Su (xs:=fT (fo (bB g)) (s1,s2) ((dZ.take (dP g)).take j)) ae c () vj (next:=λad=>?_);rw[show fT (fo (bB g)) (s1,s2) ((dZ.take (dP g)).take j)++[c]=fT (fo (bB g)) (s1,s2) ((dZ.take (dP g)).take (j+1))from hnr.symm];refine go ?_;refine rz (o:=0+vs.length*1) (cs:=ws) (v:=.slice ad ((fT (fo (bB g)) (s1,s2) ((dZ.take (dP g)).take j)).length+1) ((fT (fo (bB g)) (s1,s2) ((dZ.take (dP g)).take j)).length+1)) (cs':=ws.set vs.length (.slice ad ((fT (fo (bB g)) (s1,s2) ((dZ.take (dP g)).take j)).length+1) ((fT (fo (bB g)) (s1,s2) ((dZ.take (dP g)).take j)).length+1))) (by rw[fC,uV]) vj ?_;refine SH ae (.slice ad ((fT (fo (bB g)) (s1,s2) ((dZ.take (dP g)).take j)).length+1) ((fT (fo (bB g)) (s1,s2) ((dZ.take (dP g)).take j)).length+1)) (fT (fo (bB g)) (s1,s2) ((dZ.take (dP g)).take (j+1))) (λe=>by rw[hnr]at e;exact absurd e (by show¬(_++[c]=[]);simp)) ?_;refine SF (kY ae) (b:=bl) (xss:=xss.set vs.length (fT (fo (bB g)) (s1,s2) ((dZ.take (dP g)).take j))) (vs:=ws) (k:=vs.length) (xs:=fT (fo (bB g)) (s1,s2) ((dZ.take (dP g)).take (j+1))) (by rw[uX];exact EW) (by rw[uX];omega) (h:=?_);rw[List.set_set];refine go ?_;exact aM (j+1) vj vj
   ·rw[rE hm]at hnr;refine go ?_;refine Iq (A:=nM (kY ae) bl (xss.set vs.length (fT (fo (bB g)) (s1,s2) ((dZ.take (dP g)).take j)))) (A':=nM (kY ae) bl (xss.set vs.length (fT (fo (bB g)) (s1,s2) ((dZ.take (dP g)).take (j+1))))) (congrArg (nM (kY ae) bl) ((by rw[hnr];exact congrArg (xss.set vs.length) (iI _).symm))) ?_;exact aM (j+1) vj vj
  have hjl:j=dP g:=vj
  subst hjl;refine Iq (A:=nM (kY ae) bl (xss.set vs.length (fT (fo (bB g)) (s1,s2) ((dZ.take (dP g)).take (dP g))))) (A':=nM (kY ae) bl (xss.set vs.length (fT (fo (bB g)) (s1,s2) (dZ.take (dP g))))) (congrArg (nM (kY ae) bl) ((congrArg (λz=>xss.set vs.length (fT (fo (bB g)) (s1,s2) z)) (tV (Nat.le_of_eq hml))))) ?_;refine go ?_;refine SE (kY ae) (b:=bl) (xss:=xss.set vs.length (fT (fo (bB g)) (s1,s2) (dZ.take (dP g)))) (k:=vs.length) (xs:=fT (fo (bB g)) (s1,s2) (dZ.take (dP g))) (by rw[o9,if_pos rfl,if_pos vj]) (h:=λws v EW hv2=>?_);rw[uX]at EW;refine SG ae v (fT (fo (bB g)) (s1,s2) (dZ.take (dP g))) (λhz=>?_);refine rA (o:=0+vs.length*1) (cs:=ws) v (by rw[fC,uV];exact hv2) ?_;have hn6:=IA (fo (bB g)) (s1,s2) (dZ.take (dP g));rw[hml]at hn6;have hjm:=Ag g;refine pV (E:=ae) (v:=v) (xs:=fT (fo (bB g)) (s1,s2) (dZ.take (dP g))) λa hv=>?_;subst hv;refine ax (Jh (a:=a) (zs:=fT (fo (bB g)) (s1,s2) (dZ.take (dP g))) rfl vj) (next:=λ_ _=>?_);refine aeZ (b:=bl) (cs:=ws) (cs':=ws.set vs.length (.slice a (fT (fo (bB g)) (s1,s2) (dZ.take (dP g))).length (fT (fo (bB g)) (s1,s2) (dZ.take (dP g))).length)) (ac0 hv2).symm ?_;refine SH ae (.slice a (fT (fo (bB g)) (s1,s2) (dZ.take (dP g))).length (fT (fo (bB g)) (s1,s2) (dZ.take (dP g))).length) (bM (fT (fo (bB g)) (s1,s2) (dZ.take (dP g)))) (λe=>hz (jw.1 (by rw[<- yI,e];rfl))) ?_;refine SF (kY ae) (b:=bl) (xss:=xss.set vs.length (fT (fo (bB g)) (s1,s2) (dZ.take (dP g)))) (vs:=ws) (k:=vs.length) (xs:=bM (fT (fo (bB g)) (s1,s2) (dZ.take (dP g)))) (by rw[uX];exact EW) (by rw[uX];omega) (h:=?_);refine Iq (A:=nM (kY ae) bl ((xss.set vs.length (fT (fo (bB g)) (s1,s2) (dZ.take (dP g)))).set vs.length (bM (fT (fo (bB g)) (s1,s2) (dZ.take (dP g)))))) (A':=nM (kY ae) bl (xss.set ((vs.length:Int)).toNat (lJ g ((vs.length:Int),s1,s2)))) (congrArg (nM (kY ae) bl) ((by rw[List.set_set,gy];rfl))) ?_;refine go ?_;exact En () rfl trivial trivial
 intro r2 xs2 ae2;subst ae2;rw[Ji (λ(xss:List (List Int)) (x:Int×(Int×Int))=>xss.set x.1.toNat (lJ g x))];dsimp only[List.cons_append,List.nil_append];rw[show(bB g).foldl (λ(xss:List (List Int)) (x:Int×(Int×Int))=>xss.set x.1.toNat (lJ g x)) (List.replicate g.cells.length [])=bI g from ac3 g];refine bi (acK (A:=kY ae) (E:=sV ae) (b:=bl) (xss:=bI g) (c:=(bI g).length) (λv=>v) rfl (λ_ _=>rfl) (λv xs=>acL)) (h:=?_);rw[uC];refine go ?_;refine lu (c:=(0:Int)=0) (f:=ai (sV ae) (.slice (some ⟨bl,0,some 0⟩) g.cells.length g.cells.length) (bI g)) vm ?_;exact H6 ⟨.slice (some ⟨bl,0,some 0⟩) g.cells.length g.cells.length,0⟩ (hv:=rfl) (hp:=⟨λ_=>hg,λ_=>rfl⟩)
end Go.Proofs.YtfakljdleblkoaaGreat
namespace Go.Proofs.YtfakljdleblkoaaGreat
open Go.Ideal Kd
def rH(n:Nat)(xs:List Int):List Value:=(List.range n).map λj:Nat=>.bool (decide ((j:Int)∈xs))
theorem UU(n:Nat)(xs:List Int):(rH n xs).length=n:=by unfold rH;rw[cz,o8]
variable{n j:Nat}{xs:List Int}
theorem ae3(hj:j<n):(rH n xs)[0+j*1]? =some (.bool (decide ((j:Int)∈xs))):=by
 rw[fC,uV];unfold rH;rw[dK,qN hj];rfl
theorem ae4(hj:j<n):(rH n xs).set (0+j*1) (.bool true)=rH n (xs++[(j:Int)]):=by
 rw[fC,uV];apply jv;intro i;rw[o9,UU];unfold rH;by_cases hi:i<n
 ·exact pn
 ·exact ox
theorem ae5(n:Nat):zeros [.bool false] n=rH n []:=by
 have h:zeros [.bool false] n=List.replicate n (.bool false):=by
  induction n with
  |zero=>rfl
  |succ n ih=>rw[FH,<- ih];rfl
 rw[h];unfold rH;apply jv;intro i;rw[dK,OT];by_cases hi:i<n
 ·rw[qN hi,if_pos hi];simp
 ·rw[gJ (by rw[o8];omega),if_neg hi];rfl
theorem alO{b:Nat}{x:Int}:uz (pt b (.cells [.int .i64 x])) [ai ae (.slice (some ⟨b,0,some 0⟩) 1 1) [x]]:=D7 (xs:=[x])
