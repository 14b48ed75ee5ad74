/-
  Puzzles: the constraints that rules make.
-/
import Derived.Test.YtoohgkkmdnbnfaaGreatDoorLibWE
set_option linter.all false
set_option maxRecDepth 10000
set_option maxHeartbeats 4000000
namespace Go.Proofs.YtoohgkkmdnbnfaaGreatDoor
open Go.Ideal Kd Canon Gph
theorem adR{r:aW}{vals:List Int}{vc vv v1 v2:Value}(h:r.eU≠mK->0<vals.length):dS Tryz.prog 169 [.agg ⟨[vc,vv]⟩,.agg ⟨jX r v1 v2⟩] [ai ae vv vals] (.int .i64 (ry r vals)):=by
 refine aS _ (aQ 169) λB w0=>?_;refine go ?_;intro b2 b3;refine go ?_;refine lg (p:=r.eU=mK) (by show Value.bool _=_;rw[nC]) (λh1=>?_) (λh1=>?_)
 ·have h0:=h h1;refine go ?_;intro _ _ y hy;refine go ?_;refine aa () (hv:=?_) (hp:=trivial);unfold ry;rw[if_neg h1,Tm hy];rfl
 ·refine go ?_;refine aa () (hv:=?_) (hp:=trivial);unfold ry;rw[if_pos h1];rfl
theorem Tx{r:aW}{vals:List Int}{vc vv v1 v2:Value}{most:Int}(h:r.eU≠mK->0<vals.length):dS Tryz.prog 120 [.agg ⟨[vc,vv]⟩,.agg ⟨jX r v1 v2⟩,.int .i64 most] [ai ae vv vals] (.tuple ⟨[.int .i64 (jb r vals most).1,.int .i64 (jb r vals most).2]⟩):=by
 refine aS _ (aQ 120) λB w0=>?_;refine go ?_;intro b3 b4;refine go ?_;refine ax (adR (r:=r) (vals:=vals) (vc:=vc) (vv:=vv) (v1:=v1) (v2:=v2) h) (next:=λ_ _=>?_);refine go ?_;refine aG rfl (λh1=>?_) (λh1=>?_)
 ·refine go ?_;refine aa () (hv:=?_) (hp:=trivial);unfold jb;rw[if_pos h1];rfl
 refine go ?_;refine aG rfl (λh2=>?_) (λh2=>?_)
 ·refine go ?_;refine(fP rfl rfl (YD rfl rfl)).h ?_;refine go ?_;refine aa () (hv:=?_) (hp:=trivial);unfold jb;rw[if_neg h1,if_pos h2];rfl
 refine go ?_;refine aa () (hv:=?_) (hp:=trivial);unfold jb;rw[if_neg h1,if_neg h2];rfl
abbrev Bg(k s o lo hi:Int)(vr:Value):Value:=.agg ⟨[.int .i64 k,.slice none 0 0,.int .i64 s,.int .i64 o,.int .i64 lo,.int .i64 hi,vr,.int .i64 0,.int .i64 0]⟩
theorem adS{b:Nat}{k:Int}{r:aW}{vc vv v1 v2:Value}:aV Tryz.prog (.func 119) [.agg ⟨jX r v1 v2⟩,.agg ⟨[vc,vv]⟩] [ptr' b] [] [dF b 0 [.int .i64 k]] (λ_:Unit=>Bg k r.set r.other r.n 0 (.slice none 0 0)) (λ_=>[]) (λ_=>[]) (λ_=>True):=by
 refine aS _ (aQ 119) λB w0=>?_;refine go ?_;intro b3 b4 b5;refine go ?_;exact aa () (hv:=rfl) (hp:=trivial)
theorem yJ{k:Int}:aV Tryz.prog (.func 74) [.int .i64 k] [] [] [] (λb:Nat=>.func (.func 119) #[] #[ptr' b]) (λ_=>[]) (λb=>[dF b 0 [.int .i64 k]]) (λ_=>True):=by
 refine aS _ (aQ 74) λB w0=>?_;refine go ?_;intro b1;refine go ?_;refine aZ (fo (b:=b1)) (h:=?_);exact aa b1 (hv:=rfl) (hp:=trivial)
theorem adT{r:aW}{cells vals:List Int}{vc vv v1 v2:Value}(h:r.eU≠mK->0<vals.length):dS Tryz.prog 75 [.agg ⟨jX r v1 v2⟩,.agg ⟨[vc,vv]⟩] [ai ae vc cells,ai ae vv vals] (Bg 2 r.set 0 (jb r vals cells.length).1 (jb r vals cells.length).2 (.slice none 0 0)):=by
 refine aS _ (aQ 75) λB w0=>?_;refine go ?_;intro b2 b3 b4;refine go ?_;refine ax (Tx (r:=r) (vals:=vals) (vc:=vc) (vv:=vv) (v1:=v1) (v2:=v2) (most:=(cells.length:Int)) h) (next:=λ_ _=>?_);refine go ?_;exact aa () (hv:=rfl) (hp:=trivial)
theorem adU{r:aW}{vals:List Int}{vc vv v1 v2:Value}(h:r.eU≠mK->0<vals.length):dS Tryz.prog 76 [.agg ⟨jX r v1 v2⟩,.agg ⟨[vc,vv]⟩] [ai ae vv vals] (Bg 3 0 0 (jb r vals 65536).1 (jb r vals 65536).2 (.slice none 0 0)):=by
 refine aS _ (aQ 76) λB w0=>?_;refine go ?_;intro b2 b3 b4;refine go ?_;refine ax (Tx (r:=r) (vals:=vals) (vc:=vc) (vv:=vv) (v1:=v1) (v2:=v2) (most:=65536) h) (next:=λ_ _=>?_);refine go ?_;exact aa () (hv:=rfl) (hp:=trivial)
theorem adV{r:aW}{vals:List Int}{vc vv v1 v2:Value}:dS Tryz.prog 77 [.agg ⟨jX r v1 v2⟩,.agg ⟨[vc,vv]⟩] [ai ae vv vals] (Bg 5 r.set 0 0 0 vv):=by
 refine aS _ (aQ 77) λB w0=>?_;refine fq (E:=ae) (v:=vv) (xs:=vals) (by simp) λav cv Du=>?_;subst Du;refine go ?_;intro b2 b3 b4;refine go ?_;exact aa () (hv:=rfl) (hp:=trivial)
theorem adW{r:aW}{vals:List Int}{vc vv v1 v2:Value}(h0:0<vals.length)(hv:∀x∈vals,0<=x/\x<16):dS Tryz.prog 78 [.agg ⟨jX r v1 v2⟩,.agg ⟨[vc,vv]⟩] [ai ae vv vals] (Bg 2 ((1<<<(vals.getD 0 0).toNat:Nat):Int) 0 1 1 (.slice none 0 0)):=by
 refine aS _ (aQ 78) λB w0=>?_;refine go ?_;intro b2 b3 b4;refine go ?_;intro _ _ y hy;have hyv:=hv y (bG hy);obtain⟨n,rfl⟩:=qB hyv.1;have hlt:(1:Nat)<<<n<9223372036854775808:=by
  rw[Nat.one_shiftLeft];exact jQ (GG (by omega) (show n<16 by omega)) (by decide)
 refine qV (qa (a:=1) (b:=n) rfl rfl (by omega) hlt) ?_;refine go ?_;refine aa () (hv:=?_) (hp:=trivial);rw[Tm hy,kV];rfl
structure Dw where
 b1:Nat
 b4:Nat
 b6:Nat
 b7:Nat
 b8:Nat
 b9:Nat
 b10:Nat
abbrev yK(b:Nat):Value:=.func (.func 119) #[] #[ptr' b]
abbrev Ls(y:Dw):List Value:=[.int .i64 0,.int .i64 0,.nilFunc,.int .i64 (-1),.int .i64 2,yK y.b1,.int .i64 (-1),.int .i64 0,.func (.func 75) #[] #[],.int .i64 (-1),.int .i64 0,.func (.func 76) #[] #[],
 .int .i64 (-1),.int .i64 2,yK y.b4,.int .i64 (-1),.int .i64 0,.func (.func 77) #[] #[],.int .i64 6,.int .i64 0,yK y.b6,.int .i64 6,.int .i64 0,yK y.b7,.int .i64 6,.int .i64 0,yK y.b8,.int .i64 7,.int .i64 0,yK y.b9,.int .i64 7,.int .i64 0,yK y.b10,.int .i64 0,.int .i64 0,.func (.func 78) #[] #[]]
abbrev Ty(y:Dw):List aB:=[dF y.b1 0 [.int .i64 1],dF y.b4 0 [.int .i64 4],dF y.b6 0 [.int .i64 1],dF y.b7 0 [.int .i64 6],dF y.b8 0 [.int .i64 7],dF y.b9 0 [.int .i64 8],dF y.b10 0 [.int .i64 9]]
theorem adX:aV Tryz.prog (.func 47) [] [] [] [] (λy:Dw=>.agg ⟨Ls y⟩) (λ_=>[]) Ty (λ_=>True):=by
 refine aS _ (aQ 47) λB w0=>?_;refine go ?_;intro b0;refine ax (yJ (k:=1)) (next:=λb1 _=>?_);refine go ?_;refine ax (yJ (k:=4)) (next:=λb4 _=>?_);refine go ?_;refine ax (yJ (k:=1)) (next:=λb6 _=>?_);refine go ?_;refine ax (yJ (k:=6)) (next:=λb7 _=>?_);refine go ?_;refine ax (yJ (k:=7)) (next:=λb8 _=>?_);refine go ?_;refine ax (yJ (k:=8)) (next:=λb9 _=>?_);refine go ?_;refine ax (yJ (k:=9)) (next:=λb10 _=>?_);dsimp only[List.cons_append,List.nil_append];refine go ?_;exact aa ⟨b1,b4,b6,b7,b8,b9,b10⟩ (hv:=rfl) (hp:=trivial)
structure Lt(p:List Clue)(t:Clue)(y:Nat×Bool):Prop where
 le:y.1<=p.length
 lo:∀(j:Nat) g,j<y.1->p[j]? =some g->eP g t<0
 hi:∀(j:Nat) g,y.1<=j->p[j]? =some g->¬eP g t<0
 is:y.2=true↔∃g,p[y.1]? =some g/\eP g t=0
def Gf(p:List Clue):Prop:=∀(i j:Nat) a b,i<j->p[i]? =some a->p[j]? =some b->eP a b<0
theorem adY{v vt:Value}{p:List Clue}{t:Clue}(hl:p.length<4611686018427387904)(hs:Gf p):
 aV Tryz.prog (.func 80) [v,FE t vt,.func (.func 38) #[] #[]] [] [] [ai kI v p] (λy:Nat×Bool=>.tuple ⟨[.int .i64 (y.1:Int),.bool y.2]⟩) (λ_=>[]) (λ_=>[]) (Lt p t):=by
 refine aS _ (aQ 80) λB w0=>?_;refine go ?_;intro b4;refine go ?_;refine bJ (λy:Nat×Nat=>y.2 - y.1) (λy=>[(9,.int .i64 (y.1:Int)),(10,.int .i64 (y.2:Int))]) (λ_=>[]) (λ_=>[]) (λy=>y.1<=y.2/\y.2<=p.length/\(∀(j:Nat) g,j<y.1->p[j]? =some g->eP g t<0)/\(∀(j:Nat) g,y.2<=j->p[j]? =some g->¬eP g t<0)) (0,p.length) ⟨dD _,bn _,λj x hj=>by omega,λj x hj hx=>by have:=(bA.1 hx).1;omega⟩ (body:=?_);rintro⟨a,b⟩ ⟨hab,hb,hlo,hhi⟩;dsimp only at hab hb hlo hhi⊢;refine go ?_;refine aG rfl (λh1=>?_) (λh1=>?_)
 ·have Cn:a<=(a+b)>>>1/\(a+b)>>>1<b:=by
   rw[TW];omega
  generalize hm:(a+b)>>>1=m at Cn;refine go ?_;rw[show(a:Int)+(b:Int)=((a+b:Nat):Int)by omega];refine(fP rfl rfl (CV (k:=.u64) (m:=((a+b:Nat):Int)) (by kernel_rfl:Tryz.prog.underlying 3=some (.int .i64)) (by kernel_rfl) rfl (QA (by omega)))).h ?_;refine(fP rfl rfl (QB (a:=a+b) (b:=1) rfl rfl (by omega))).h ?_;rw[hm];refine(fP rfl rfl (CV (k:=.i64) (m:=(m:Int)) (by kernel_rfl:Tryz.prog.underlying 63=some (.int .u64)) (by kernel_rfl) rfl (wrapN (by omega)))).h ?_;refine go ?_;refine dm kI (xs:=p) (next:=λ_ _ x (vx:Value) hx=>?_);refine go ?_;refine ax (Li (a:=x) (b:=t) (va:=vx) (vb:=vt)) (next:=λ_ _=>?_);refine go ?_;refine aG rfl (λh2=>?_) (λh2=>?_)
  ·refine go ?_;refine bi (m+1,b) (by show b - (m+1)<b - a;omega) ⟨by show m+1<=b;omega,hb,λj u hj hu=>?_,hhi⟩;by_cases e:j=m
   ·subst e;rw[hx]at hu;cases hu;exact h2
   ·exact C8 (hs j m u x (by have:j<m+1:=hj;omega) hu hx) h2
  ·refine go ?_;refine bi (a,m) (by show m - a<b - a;omega) ⟨by show a<=m;omega,by show m<=_;omega,hlo,λj u hj hu=>?_⟩;by_cases e:j=m
   ·subst e;rw[hx]at hu;cases hu;exact h2
   ·exact λh3=>h2 (C8 (hs m j x u (by have:m<=j:=hj;omega) hx hu) h3)
 have hba:b=a:=by omega
 subst hba;refine go ?_;first|with_reducible refine aN (λh2=>?_) (λh2=>?_)|with_reducible refine aO (λh2=>?_) (λh2=>?_)|with_reducible refine aL (λh2=>?_) (λh2=>?_)
 ·have hn:p[b]? =none:=gy (by omega);refine go ?_;exact aa (b,false) (hv:=rfl) (hp:=⟨by show b<=_;omega,hlo,hhi,by show false=true↔∃g,p[b]? =some g/\_;rw[hn];simp⟩)
 refine go ?_;refine dm kI (xs:=p) (next:=λ_ _ x (vx:Value) hx=>?_);refine go ?_;refine ax (Li (a:=x) (b:=t) (va:=vx) (vb:=vt)) (next:=λ_ _=>?_);refine go ?_;refine aa (b,decide (eP x t=0)) (hv:=rfl) (hp:=⟨by show b<=_;omega,hlo,hhi,?_⟩);show decide (eP x t=0)=true↔∃g,p[b]? =some g/\eP g t=0;rw[hx,wU];exact⟨λh=>⟨x,rfl,h⟩,λ⟨g,h1,h2⟩=>by cases h1;exact h2⟩
theorem Lt.find{p:List Clue}{c:Int}{n:Nat}{y:Nat×Bool}(hs:Gf p)(h:Lt p ⟨c,(n:Int),[]⟩ y):(y.2=true->∃g,p[y.1]? =some g/\uA p c (n:Int)=some g.values)/\(y.2=false->uA p c (n:Int)=none):=by
 have hz:∀g:Clue,eP g ⟨c,(n:Int),[]⟩=0↔g.aJ=c/\g.at_=(n:Int):=λg=>by
  unfold eP;simp only[qo];have h1:=xK.zero g.aJ c;have h2:=xK.zero g.at_ (n:Int);by_cases e:fO g.aJ c=0
  ·rw[if_neg (by simpa using e)];by_cases e2:fO g.at_ (n:Int)=0
   ·rw[if_neg (by simpa using e2)];exact⟨λ_=>⟨h1.1 e,h2.1 e2⟩,λ_=>rfl⟩
   ·rw[if_pos e2];exact⟨λh=>absurd h e2,λh=>absurd (h2.2 h.2) e2⟩
  ·rw[if_pos e];exact⟨λh=>absurd h e,λh=>absurd (h1.2 h.1) e⟩
 have adZ:∀(i j:Nat) a b,p[i]? =some a->p[j]? =some b->eP a ⟨c,(n:Int),[]⟩=0->eP b ⟨c,(n:Int),[]⟩=0->i=j:=by
  intro i j a b ha hb h1 h2;have e1:=(hz a).1 h1;have e2:=(hz b).1 h2;rcases Nat.lt_trichotomy i j with hl|hl|hl
  ·have:=sG.1 (hs i j a b hl ha hb);omega
  ·exact hl
  ·have:=sG.1 (hs j i b a hl hb ha);omega
 constructor
 ·intro hy;obtain⟨g,hg,h0⟩:=h.is.1 hy;refine⟨g,hg,?_⟩;unfold uA;cases hf:p.find? (λg=>decide (g.aJ=c/\g.at_=(n:Int)))with
  |none=>
   have:=LW.1 hf g (bG hg);exact absurd (dU ((hz g).1 h0)) this
  |some g2=>
   have h2':=List.find?_some hf;have h2:g2.aJ=c/\g2.at_=(n:Int):=iJ h2';obtain⟨j,hj⟩:=ku (LX hf);have:=adZ _ _ _ _ hg hj h0 ((hz g2).2 h2);subst this;rw[hg]at hj;cases hj;rfl
 ·intro hy;unfold uA;rw[show p.find? (λg=>decide (g.aJ=c/\g.at_=(n:Int)))=none from LW.2 λg hg hd=>by
   have hd:=iJ hd;have h0:=(hz g).2 hd;obtain⟨j,hj⟩:=ku hg;by_cases hlt:j<y.1
   ·have:=h.lo j g hlt hj;omega
   ·by_cases e:j=y.1
    ·subst e;have:=h.is.2 ⟨g,hj,h0⟩;rw[hy]at this;cases this
    ·have hyl:y.1<p.length:=by have:=(bA.1 hj).1;omega
     have hq:p[y.1]? =some p[y.1]:=dz hyl;have h1:=hs y.1 j _ g (by omega) hq hj;have h2:=h.hi y.1 _ (bn _) hq;apply h2;have e1:=sG.1 h1;rw[sG];show p[y.1].aJ<c\/p[y.1].aJ=c/\p[y.1].at_<(n:Int);omega]
  rfl
theorem Tz{k:bP}{r:aW}{fi:Nat}{vh vs vr vc vu gh gc vn vl vp v1 v2:Value}:
 aV Tryz.prog (.func 48) [.agg ⟨mO k vh vs vr vc vu gh gc vn vl⟩,.agg ⟨[vp]⟩,.agg ⟨jX r v1 v2⟩,.int .i64 (fi:Int)] [] [] [] (λy:Nat×Nat×Nat×Nat=>.func (.func 79) #[] #[ptr' y.1,ptr' y.2.1,ptr' y.2.2.1,ptr' y.2.2.2]) (λ_=>[])
  (λy=>[dF y.1 0 (mO k vh vs vr vc vu gh gc vn vl),dF y.2.1 0 [.int .i64 (fi:Int)],dF y.2.2.1 0 (jX r v1 v2),dF y.2.2.2 0 [vp]]) (λ_=>True):=by
 refine aS _ (aQ 48) λB w0=>?_;refine go ?_;intro b4 b5 b6 b7;refine go ?_;refine aZ (fo (b:=b4)) (h:=?_);refine aZ (fo (b:=b5)) (h:=?_);refine aZ (fo (b:=b6)) (h:=?_);refine aZ (fo (b:=b7)) (h:=?_);exact aa (b4,b7,b6,b5) (hv:=rfl) (hp:=trivial)
theorem ad1{B:List Nat}{w0:Wd}{kl:List OA}{F:List aB}{Q:IH->Prop}(f:aB)(hf:∀w,f.p w)(h:R Q B w0 kl (f::F)):R Q B w0 kl F:=λw s=>
 h w ⟨s.agree,s.le,s.dR,s.own,λg hg=>by
  rcases cK.1 hg with rfl|hg
  ·exact hf w
  ·exact s.facts g hg⟩
def wI(p:List Clue)(r:aW)(ls:List (List Int))(j:Nat):List (Nat×List Int×List Int):=((ls.drop j).zipIdx (0+(ls.take j).length)).filterMap (sH p r)
theorem TA{p:List Clue}{r:aW}{ls:List (List Int)}(j:Nat):jq p r ls=jq p r (ls.take j)++wI p r ls j:=by
 unfold jq wI;rw[<- LZ,<- Bt,rH]
theorem TB{bk bf br bp:Nat}{k:bP}{p:List Clue}{r:aW}{fi:Nat}{ls:List (List Int)}{vh vs vr vc vu gh gc vn vl vp v1 v2:Value}(hS:og k)(hl:p.length<4611686018427387904)(hs:Gf p)(hls:k.lists[fi]? =some ls):
 JH Tryz.prog Da yB (.func 79) [] [ptr' bk,ptr' bf,ptr' br,ptr' bp] [dF bk 0 (mO k vh vs vr vc vu gh gc vn vl),dF bf 0 [.int .i64 (fi:Int)],dF br 0 (jX r v1 v2),dF bp 0 [vp],ai (aC (aC ae)) vl k.lists,ai kI vp p] (λxs=>xs.map lZ=jq p r ls):=by
 intro S inv ok step s0 sD y1 y2 F' h0 hok hy;rw[dn,dn,dn,dn,dn,dn,di];refine aS _ (aQ 79) λB w0=>?_;have hll:=(hS.lists.2 ls (bG hls)).1;have hfi:=(bA.1 hls).1;refine go ?_;refine dm (aC (aC ae)) (xs:=k.lists) (next:=λ_ _ ls2 (vls:Value) TC=>?_);rw[hls]at TC;obtain rfl:ls=ls2:=Option.some.inj TC;refine go ?_;refine bJ (λy:Nat×List LA×S=>ls.length - y.1) (λy=>[(17,.int .i64 (y.1:Int))]) (λy=>inv y.2.2) (λ_=>[]) (λy=>y.1<=ls.length/\ok y.2.1 y.2.2/\y.2.1.map lZ=jq p r (ls.take y.1)/\∀rest,fF step s0 (y.2.1++rest)=fF step y.2.2 rest) (0,[],s0) ⟨dD _,h0,rfl,λ_=>rfl⟩ (body:=?_);rintro⟨j,dP,s⟩ ⟨hj,hos,wJ,hrun⟩;dsimp only at hj hos wJ hrun⊢;refine go ?_;refine aG rfl (λh1=>?_) (λh1=>?_)
 rotate_left
 ·have o8:j=ls.length:=by omega
  subst o8;rw[eB]at wJ;have hr2:=hrun [];rw[iX]at hr2;refine go ?_;exact aa dP (hv:=rfl) (hp:=wJ) (hk:=by rw[hr2];exact aM.all _)
 refine go ?_;refine dm (aC ae) (xs:=ls) (next:=λ_ _ ps (vps:Value) hps=>?_);have Bh:=aaw (p:=p) (r:=r) hps;refine fq (E:=ae) (v:=vps) (xs:=ps) (by simp) λap cp ep=>?_;subst ep;refine go ?_;intro b8;refine go ?_;refine aG rfl (λh2=>?_) (λh2=>?_)
 ·have hlr:sH p r (ps,j)=(uA p r.aJ (j:Int)).map λv=>(j,ps,v):=by unfold sH;rw[if_neg (by omega)]
  refine go ?_;refine ax (adY (p:=p) (t:=⟨r.aJ,(j:Int),[]⟩) (vt:=.slice none 0 0) hl hs) (next:=λy hy2=>?_);have tO:=hy2.find hs;obtain⟨n,fd⟩:=y;dsimp only at tO⊢;rw[di];cases fd with
  |false=>
   have hnn:=tO.2 rfl;rw[hlr,hnn]at Bh;refine go ?_;exact bi (j+1,dP,s) (by show ls.length - (j+1)<ls.length - j;omega) ⟨by show j+1<=_;omega,hos,by show dP.map lZ=_;rw[wJ,Bh];exact(iX _).symm,hrun⟩
  |true=>
   obtain⟨g,hg,hfg⟩:=tO.1 rfl;have NJ:=(bA.1 hg).1;rw[hlr,hfg]at Bh;refine go ?_;refine Zq kI 3 rfl hg λb o f cc yc ec=>?_;subst ec;rw[show kI.fs g yc=[ai ae yc g.values]from rfl,dn,di,show kI.pat g yc=[.int .i64 g.aJ,.int .i64 g.at_,yc]from rfl];refine go ?_;refine(Jd (b:=b) (o:=o+n*3) (j:=2) (cs:=[.int .i64 g.aJ,.int .i64 g.at_,yc]) (v:=yc) rfl rfl rfl (bF ..) rfl).h ?_;refine fq (E:=ae) (v:=yc) (xs:=g.values) (by simp) λaq cq eq=>?_;subst eq;generalize hxd:((j,(ps,Value.slice ap ps.length cp),(g.values,Value.slice aq g.values.length cq)):LA)=x;have hnx:jq p r (ls.take (j+1))=jq p r (ls.take j)++[lZ x]:=by rw[Bh,<- hxd];rfl
   have hX:(dP++x::wz (wI p r ls (j+1))).map lZ=jq p r ls:=by
    rw[dM,fG,Rq,wJ];conv=>rhs;rw[TA (j+1),hnx,dQ]
    rfl
   have l7:=hy _ s _ _ hos hX;rw[show Da x=[.int .i64 (j:Int),.agg ⟨[.slice ap ps.length cp,.slice aq g.values.length cq]⟩]by rw[<- hxd];rfl,show yB x=[ai ae (.slice ap ps.length cp) ps,ai ae (.slice aq g.values.length cq) g.values]by rw[<- hxd];rfl]at l7;rw[dn,dn,di]at l7;refine go ?_;refine ax l7 (next:=λ_ _=>?_);cases hst:(step s x).2 with
   |true=>
    have hs1:step s x=((step s x).1,true):=Prod.ext rfl hst;refine go ?_;refine bi (j+1,dP++[x],(step s x).1) (by show ls.length - (j+1)<ls.length - j;omega) ⟨by show j+1<=_;omega,hok _ s _ _ hos hX hst,?_,λrest=>?_⟩
    ·show(dP++[x]).map lZ=_;rw[dM,rP,wJ];exact hnx.symm
    ·show fF step s0 (dP++[x]++rest)=_;rw[dQ,hrun];show fF step s (x::rest)=_;rw[fF,hs1]
   |false=>
    have hs1:step s x=((step s x).1,false):=Prod.ext rfl hst;have hr:=hrun (x::wz (wI p r ls (j+1)));rw[fF,hs1]at hr;dsimp only at hr;refine go ?_;exact aa (dP++x::wz (wI p r ls (j+1))) (hv:=rfl) (hp:=hX) (hk:=by rw[hr];first|exact aM.all _|exact aM.self _ _)
 ·have hlr:sH p r (ps,j)=some (j,ps,[]):=by unfold sH;rw[if_pos (by omega)]
  rw[hlr]at Bh;refine ad1 (ai ae (.slice none 0 0) ([]:List Int)) (λw=>.inl ⟨rfl,none,0,rfl,trivial⟩) ?_;generalize hxd:((j,(ps,Value.slice ap ps.length cp),(([]:List Int),Value.slice none 0 0)):LA)=x;have hnx:jq p r (ls.take (j+1))=jq p r (ls.take j)++[lZ x]:=by rw[Bh,<- hxd];rfl
  have hX:(dP++x::wz (wI p r ls (j+1))).map lZ=jq p r ls:=by
   rw[dM,fG,Rq,wJ];conv=>rhs;rw[TA (j+1),hnx,dQ]
   rfl
  have l7:=hy _ s _ _ hos hX;rw[show Da x=[.int .i64 (j:Int),.agg ⟨[.slice ap ps.length cp,.slice none 0 0]⟩]by rw[<- hxd];rfl,show yB x=[ai ae (.slice ap ps.length cp) ps,ai ae (.slice none 0 0) []]by rw[<- hxd];rfl]at l7;rw[dn,dn,di]at l7;refine go ?_;refine ax l7 (next:=λ_ _=>?_);cases hst:(step s x).2 with
  |true=>
   have hs1:step s x=((step s x).1,true):=Prod.ext rfl hst;refine go ?_;refine bi (j+1,dP++[x],(step s x).1) (by show ls.length - (j+1)<ls.length - j;omega) ⟨by show j+1<=_;omega,hok _ s _ _ hos hX hst,?_,λrest=>?_⟩
   ·show(dP++[x]).map lZ=_;rw[dM,rP,wJ];exact hnx.symm
   ·show fF step s0 (dP++[x]++rest)=_;rw[dQ,hrun];show fF step s (x::rest)=_;rw[fF,hs1]
  |false=>
   have hs1:step s x=((step s x).1,false):=Prod.ext rfl hst;have hr:=hrun (x::wz (wI p r ls (j+1)));rw[fF,hs1]at hr;dsimp only at hr;refine go ?_;exact aa (dP++x::wz (wI p r ls (j+1))) (hv:=rfl) (hp:=hX) (hk:=by rw[hr];first|exact aM.all _|exact aM.self _ _)
theorem Dx{P:Program}{Y Z:Type}{fn:Fn}{args cap:List Value}{kl:List OA}{F:List aB}{val:Y->Value}{TD:Z->Value}{kl':Y->List OA}{bX:Z->List OA}{fs:Y->List aB}{TE:Z->List aB}{pr:Y->Prop}{TF:Z->Prop}(h:aV P fn args cap kl F val kl' fs pr)(g:Y->Z)
 (hv:∀y,pr y->val y=TD (g y)) (hk:∀y,kl' y=bX (g y)) (hf:∀y (w:Wd),pr y->(∀f∈F,f.p w)->(∀f∈fs y,f.p w)->∀f∈TE (g y),f.p w) (hp:∀y,pr y->TF (g y)):aV P fn args cap kl F TD bX TE TF:=λB w s=>by
 refine .oK _ (h B w s) ?_;rintro r pm h' ⟨e,w',y,e1,st,er,hp'⟩;exact⟨e,w',g y,e1,⟨st.agree,st.le,st.dR,hk y▸st.own,hf y w' hp' (λf hf=>f.mono st.le (s.facts f hf)) st.facts⟩,er.trans (congrArg gB.ok (hv y hp')),hp y hp'⟩
abbrev Bi(fn:Fn)(cap:List Value)(F:List aB)(r:aW)(cells vals:List Int):Prop:=∀vc vv v1 v2:Value,
 aV Tryz.prog fn [.agg ⟨jX r v1 v2⟩,.agg ⟨[vc,vv]⟩] cap [] (ai ae vc cells::ai ae vv vals::F) (λvr:Value=>Bg (gJ r cells vals).kind (gJ r cells vals).set (gJ r cells vals).other (gJ r cells vals).lo (gJ r cells vals).hi vr) (λ_=>[]) (λvr=>[ai ae vr (gJ r cells vals).runs]) (λ_=>True)
def Dy(r:aW)(vals:List Int):Prop:=(r.kind=2\/r.kind=3->r.eU≠mK->0<vals.length)/\(r.kind=11->0<vals.length/\∀x∈vals,0<=x/\x<16)
theorem Gg(w:Wd):(ai ae (.slice none 0 0) ([]:List Int)).p w:=.inl ⟨rfl,none,0,rfl,trivial⟩
theorem yL{b:Nat}{F:List aB}{r:aW}{kd:Int}{cells vals:List Int}(hk:oW r.kind=kd)(hn:r.kind≠2/\r.kind≠3/\r.kind≠5/\r.kind≠11)(hF:dF b 0 [.int .i64 kd]∈F):Bi (.func 119) [ptr' b] F r cells vals:=by
 intro vc vv v1 v2;have e:gJ r cells vals=⟨kd,cells,r.set,r.other,r.n,0,[],0,0⟩:=by simp[gJ,hn,hk]
 rw[e];exact Dx ((adS (b:=b) (k:=kd) (r:=r) (vc:=vc) (vv:=vv) (v1:=v1) (v2:=v2)).facts (λf hf=>by rw[bC.1 hf];exact bB _ (bB _ hF))) (λ_=>Value.slice none 0 0) (λ_ _=>rfl) (λ_=>rfl) (λ_ w _ _ _ f hf=>by rw[bC.1 hf];exact Gg w) (λ_ _=>trivial)
theorem ad5{F:List aB}{r:aW}{cells vals:List Int}(hk:r.kind=2)(hp:Dy r vals):Bi (.func 75) [] F r cells vals:=by
 intro vc vv v1 v2;have e:gJ r cells vals=⟨2,cells,r.set,0,(jb r vals cells.length).1,(jb r vals cells.length).2,[],0,0⟩:=by simp[gJ,hk]
 rw[e];exact Dx ((adT (r:=r) (cells:=cells) (vals:=vals) (vc:=vc) (vv:=vv) (v1:=v1) (v2:=v2) (hp.1 (.inl hk))).facts (λf hf=>by simp only[cK,DK,or_false]at hf⊢;rcases hf with rfl|rfl<;>simp)) (λ_=>Value.slice none 0 0) (λ_ _=>rfl) (λ_=>rfl) (λ_ w _ _ _ f hf=>by rw[bC.1 hf];exact Gg w) (λ_ _=>trivial)
theorem ad6{F:List aB}{r:aW}{cells vals:List Int}(hk:r.kind=3)(hp:Dy r vals):Bi (.func 76) [] F r cells vals:=by
 intro vc vv v1 v2;have e:gJ r cells vals=⟨3,cells,0,0,(jb r vals 65536).1,(jb r vals 65536).2,[],0,0⟩:=by simp[gJ,hk]
 rw[e];exact Dx ((adU (r:=r) (vals:=vals) (vc:=vc) (vv:=vv) (v1:=v1) (v2:=v2) (hp.1 (.inr hk))).facts (λf hf=>by rw[bC.1 hf];simp)) (λ_=>Value.slice none 0 0) (λ_ _=>rfl) (λ_=>rfl) (λ_ w _ _ _ f hf=>by rw[bC.1 hf];exact Gg w) (λ_ _=>trivial)
theorem ad7{F:List aB}{r:aW}{cells vals:List Int}(hk:r.kind=5):Bi (.func 77) [] F r cells vals:=by
 intro vc vv v1 v2;have e:gJ r cells vals=⟨5,cells,r.set,0,0,0,vals,0,0⟩:=by simp[gJ,hk]
 rw[e];exact Dx ((adV (r:=r) (vals:=vals) (vc:=vc) (vv:=vv) (v1:=v1) (v2:=v2)).facts (λf hf=>by rw[bC.1 hf];simp)) (λ_=>vv) (λ_ _=>rfl) (λ_=>rfl) (λ_ w _ hF _ f hf=>by rw[bC.1 hf];exact hF _ (by simp)) (λ_ _=>trivial)
theorem ad8{F:List aB}{r:aW}{cells vals:List Int}(hk:r.kind=11)(hp:Dy r vals):Bi (.func 78) [] F r cells vals:=by
 intro vc vv v1 v2;have e:gJ r cells vals=⟨2,cells,((1<<<(vals.getD 0 0).toNat:Nat):Int),0,1,1,[],0,0⟩:=by simp[gJ,hk]
 rw[e];exact Dx ((adW (r:=r) (vals:=vals) (vc:=vc) (vv:=vv) (v1:=v1) (v2:=v2) (hp.2 hk).1 (hp.2 hk).2).facts (λf hf=>by rw[bC.1 hf];simp)) (λ_=>Value.slice none 0 0) (λ_ _=>rfl) (λ_=>rfl) (λ_ w _ _ _ f hf=>by rw[bC.1 hf];exact Gg w) (λ_ _=>trivial)
structure ad9(y:Dw)(r:aW)(fm:Int)(fn:Fn)(cap:List Value):Prop where
 at_:gV (iK (Ls y) (r.kind.toNat*3)) 3=some [.int .i64 fm,.int .i64 (iG r:Int),.func fn #[] ⟨cap⟩]
 oU:(if fm<0 then r.family else fm)=fA r
 ok:∀cells vals,Dy r vals->Bi fn cap (Ty y) r cells vals
theorem aea(y:Dw){r:aW}(h:1<=r.kind/\r.kind<=11):∃fm fn cap,ad9 y r fm fn cap:=by
 have hk:r.kind=1\/r.kind=2\/r.kind=3\/r.kind=4\/r.kind=5\/r.kind=6\/r.kind=7\/r.kind=8\/r.kind=9\/r.kind=10\/r.kind=11:=by omega
 rcases hk with e|e|e|e|e|e|e|e|e|e|e
 ·exact⟨-1,.func 119,[ptr' y.b1],by rw[e,iG,if_pos (.inl e)];rfl,by unfold fA;rw[if_pos (by omega),if_neg (by omega),if_neg (by omega),if_neg (by omega)],λcells vals hp=>yL (kd:=1) (by rw[e];rfl) (by omega) (by simp)⟩
 ·exact⟨-1,.func 75,[],by rw[e,iG,if_neg (by omega)];rfl,by unfold fA;rw[if_pos (by omega),if_neg (by omega),if_neg (by omega),if_neg (by omega)],λcells vals hp=>ad5 e hp⟩
 ·exact⟨-1,.func 76,[],by rw[e,iG,if_neg (by omega)];rfl,by unfold fA;rw[if_pos (by omega),if_neg (by omega),if_neg (by omega),if_neg (by omega)],λcells vals hp=>ad6 e hp⟩
 ·exact⟨-1,.func 119,[ptr' y.b4],by rw[e,iG,if_pos (.inr e)];rfl,by unfold fA;rw[if_pos (by omega),if_neg (by omega),if_neg (by omega),if_neg (by omega)],λcells vals hp=>yL (kd:=4) (by rw[e];rfl) (by omega) (by simp)⟩
 ·exact⟨-1,.func 77,[],by rw[e,iG,if_neg (by omega)];rfl,by unfold fA;rw[if_pos (by omega),if_neg (by omega),if_neg (by omega),if_neg (by omega)],λcells vals hp=>ad7 e⟩
 ·exact⟨6,.func 119,[ptr' y.b6],by rw[e,iG,if_neg (by omega)];rfl,by unfold fA;rw[if_neg (by omega),if_pos (by omega)],λcells vals hp=>yL (kd:=1) (by rw[e];rfl) (by omega) (by simp)⟩
 ·exact⟨6,.func 119,[ptr' y.b7],by rw[e,iG,if_neg (by omega)];rfl,by unfold fA;rw[if_neg (by omega),if_pos (by omega)],λcells vals hp=>yL (kd:=6) (by rw[e];rfl) (by omega) (by simp)⟩
 ·exact⟨6,.func 119,[ptr' y.b8],by rw[e,iG,if_neg (by omega)];rfl,by unfold fA;rw[if_neg (by omega),if_pos (by omega)],λcells vals hp=>yL (kd:=7) (by rw[e];rfl) (by omega) (by simp)⟩
 ·exact⟨7,.func 119,[ptr' y.b9],by rw[e,iG,if_neg (by omega)];rfl,by unfold fA;rw[if_neg (by omega),if_neg (by omega),if_pos (by omega)],λcells vals hp=>yL (kd:=8) (by rw[e];rfl) (by omega) (by simp)⟩
 ·exact⟨7,.func 119,[ptr' y.b10],by rw[e,iG,if_neg (by omega)];rfl,by unfold fA;rw[if_neg (by omega),if_neg (by omega),if_pos (by omega)],λcells vals hp=>yL (kd:=9) (by rw[e];rfl) (by omega) (by simp)⟩
 ·exact⟨0,.func 78,[],by rw[e,iG,if_neg (by omega)];rfl,by unfold fA;rw[if_neg (by omega),if_neg (by omega),if_neg (by omega),if_pos (by omega)],λcells vals hp=>ad8 e hp⟩
structure Lu where
 ok:Bool
 e:Int
 vv:Value
 vc:Value
abbrev aeb:List Value:=[.int .i64 0,.int .i64 0,.slice none 0 0,.slice none 0 0,.slice none 0 0]
abbrev Dz(k:bP)(p:List Clue)(vn:Value)(y:Lu):Value:=.tuple ⟨[.agg ⟨cond y.ok (kU (oh k p) y.vv vn y.vc) aeb⟩,.int .i64 y.e]⟩
abbrev DC(k:bP)(p:List Clue)(y:Lu):List aB:=cond y.ok [ai ae y.vv (sO k),ai iW y.vc (lC k p)] []
structure aec(k:bP)(p:List Clue)(y:Lu):Prop where
 nk:¬eY k->y.e=180
 np:eY k->¬j5 k p->y.e=190
 nl:eY k->j5 k p->4096<(lC k p).length->y.e=2
 ok:eY k->j5 k p->(lC k p).length<=4096->y.e=0
 eq:y.ok=true↔y.e=0
theorem TG{k:bP}{p:List Clue}{r:aW}{ls:List (List Int)}(hf:RF k r)(hQ:j5 k p)(hs:k.decl.symbols.length<=16){y:Nat×List Int×List Int}(hy:y∈jq p r ls):Dy r y.2.2:=by
 have hb:=hf.Tt;rcases hf.vals hQ hy with h|⟨h0,c,_,_,h|h|h⟩
 ·refine⟨λ_ hn=>absurd (hb.2 h.1) hn,λhk=>?_⟩;have:=hf.Tu (.inr hk);omega
 ·exact⟨λhk=>by omega,λ_=>⟨by omega,λx hx=>by have:=h.2.2.2 x hx;omega⟩⟩
 ·exact⟨λ_ _=>by omega,λhk=>by omega⟩
 ·exact⟨λhk=>by omega,λhk=>by omega⟩
def mP(r:aW)(i:Nat)(s:List iU)(x:LA):List iU:=if iG r<=x.2.1.1.length then s++[jc r i (lZ x)]else s
theorem yM(r:aW)(i:Nat):∀(xs:List LA) (s:List iU),iy (λs x=>(mP r i s x,Out.normal)) s xs=(s++((xs.map lZ).filter λx=>decide (iG r<=x.2.1.length)).map (jc r i),Out.normal)
 |[],s=>by simp[iy]
 |x::xs,s=>by
  rw[iy];dsimp only;rw[yM r i xs];unfold mP;rw[fG,List.filter_cons];by_cases h:iG r<=x.2.1.1.length
  ·rw[if_pos h,if_pos (by exact dU h),fG,dQ];rfl
  ·rw[if_neg h,if_neg (by rw[wU];exact h)]
set_option maxRecDepth 100000 in
theorem TH{k:bP}{p:List Clue}{vh vs vr vc vu gh gc vn vl vp:Value}(hS:og k)(hP:Dv p):
 aV Tryz.prog (.func 21) [.agg ⟨mO k vh vs vr vc vu gh gc vn vl⟩,.agg ⟨[vp]⟩] [] [] (ai kI vp p::nZ k vh vs vr vc vu gh gc vn vl []) (Dz k p vn) (λ_=>[]) (DC k p) (aec k p):=by
 refine CG _ (aQ 21) λB w0=>?_;refine fq (E:=jM) (v:=vs) (xs:=k.decl.symbols) (by simp) λwG cs1 es1=>?_;subst es1;refine fq (E:=bq) (v:=vu) (xs:=k.decl.rules) (by simp) λau cu eu=>?_;subst eu;refine fq (E:=ae) (v:=gc) (xs:=k.grid.cells) (by simp) λag cg eg=>?_;subst eg;refine fq (E:=aC ae) (v:=vn) (xs:=k.aK) (by simp) λan cn en=>?_;subst en;refine go ?_;intro b2 b3 b4;refine go ?_;refine ax (adJ (k:=k) (p:=p) (vh:=vh) (vs:=.slice wG k.decl.symbols.length cs1) (vr:=vr) (vc:=vc) (vu:=.slice au k.decl.rules.length cu) (gh:=gh) (gc:=.slice ag k.grid.cells.length cg) (vn:=.slice an k.aK.length cn) (vl:=vl) (vp:=vp) hS hP) (next:=λe he=>?_);refine go ?_;refine aG rfl (λh1=>?_) (λh1=>?_)
 ·have TI:eY k->j5 k p->False:=λa b=>h1 (he.2.2 a b);refine go ?_;exact Al ⟨false,e,.slice none 0 0,.slice none 0 0⟩ (hv:=rfl) (hp:=⟨he.1,he.2.1,λa b=>(TI a b).elim,λa b=>(TI a b).elim,⟨λh=>(by cases h),λh=>absurd h h1⟩⟩)
 have hz:e=0:=nG.1 h1;subst hz;have hK:eY k:=Classical.byContradiction λh=>by have:=he.1 h;omega
 have hQ:j5 k p:=Classical.byContradiction λh=>by have:=he.2.1 hK h;omega
 have hsl:=hK.typ.lim.s1;have hrl:=hK.typ.lim.u;have hgl:=hK.bE.len;rw[<- hK.grid]at hgl;refine go ?_;refine mE ae ?_;refine bJ (λy:Nat×Value=>k.decl.symbols.length - y.1) (λy=>[(38,.int .i64 (y.1:Int))]) (λy=>[pt b4 (.cells (kU (oh k p) y.2 (.slice an k.aK.length cn) (.slice none 0 0))),ap ae y.2 ((k.decl.symbols.take y.1).map (·.value))]) (λ_=>[]) (λy=>y.1<=k.decl.symbols.length) (0,.slice none 0 0) (dD _) (hk:=by repeat (first|exact aM.nil|(apply aM.cons;(focus (repeat (first|exact aj.here|apply aj.there)))))) (body:=?_);rintro⟨j,vv⟩ hj;dsimp only at hj⊢;have hjl:((k.decl.symbols.take j).map (·.value)).length=j:=by rw[bT,jE];omega
 refine go ?_;refine aG rfl (λh2=>?_) (λh2=>?_)
 ·refine go ?_;refine dm jM (xs:=k.decl.symbols) (next:=λ_ _ s (_:Unit) hs=>?_);have htk:(k.decl.symbols.take (j+1)).map (·.value)=(k.decl.symbols.take j).map (·.value)++[s.value]:=by rw[j4 hs,dM,rP]
  refine go ?_;intro b7;refine go ?_;intro b46;refine go ?_;refine kR (xs:=(k.decl.symbols.take j).map (·.value)) ae s.value () (by omega) (next:=λad=>?_);rw[<- htk];refine go ?_;exact bi (j+1,.slice ad (((k.decl.symbols.take j).map (·.value)).length+1) (((k.decl.symbols.take j).map (·.value)).length+1)) (by show k.decl.symbols.length - (j+1)<k.decl.symbols.length - j;omega) (by show j+1<=_;omega)
 have o8:j=k.decl.symbols.length:=by omega
 subst o8;rw[eB,show k.decl.symbols.map (·.value)=sO k from rfl];refine aZ (kE (E:=ae) (v:=vv) (xs:=sO k)) (h:=?_);refine go ?_;refine ax adX (next:=λy _=>?_);refine go ?_;intro b8;refine aZ (fo (b:=b8)) (h:=?_);have hlf:∀l∈k.lists,l.length<=2048:=by rw[hK.lists];exact aaH hK.bE (λr hr=>(hK.typ.F6 r hr).1.2)
 have hpl:p.length<4611686018427387904:=by have:=hQ.len;omega
 have F8:Gf p:=λi j a b hij ha hb=>FK hQ (j - (i+1)) i a b ha (by rw[show i+1+(j - (i+1))=j by omega];exact hb);refine go ?_;refine mE iW ?_;refine YI ?_;refine YJ (λy=>y.2.2.map Jn) (λy:Nat×Value×List Nat=>k.decl.rules.length - y.1) (λy=>[(55,.int .i64 (y.1:Int))]) (λy=>[Am y.2.2,pt b2 (.cells (mO k vh (.slice wG k.decl.symbols.length cs1) vr vc (.slice au k.decl.rules.length cu) gh (.slice ag k.grid.cells.length cg) (.slice an k.aK.length cn) vl)),pt b3 (.cells [vp]),pt b4 (.cells (kU (oh k p) vv (.slice an k.aK.length cn) y.2.1)),ap iW y.2.1 (j6 k p y.1)]) (λ_=>[]) (λy=>y.1<=k.decl.rules.length) (0,.slice none 0 0,[]) (dD _) (hk:=by repeat (first|exact aM.nil|(apply aM.cons;(focus (repeat (first|exact aj.here|apply aj.there)))))) (body:=?_);rintro⟨j,qy,rs⟩ hj;dsimp only at hj⊢;have hcl:=Rw (p:=p) hlf j hj;refine go ?_;refine aG rfl (λh3=>?_) (λh3=>?_)
 ·refine go ?_;refine dm bq (xs:=k.decl.rules) (next:=λ_ _ r (w:Value×Value) hr=>?_);have hrm:=bG hr;have hf:=hK.rf hrm;have hkd:=hf.kd;obtain⟨ls,hls,_⟩:=hf.list hK;obtain⟨fm,fn,cap,hM⟩:=aea y hf.kd;have Gh:=hM.oU;have hf0:0<=fA r:=by
   have:=hf.f0;unfold fA;repeat' split
   all_goals omega
  refine go ?_;intro b9 b10;refine go ?_;refine(EO (b:=b8) (o:=0) (j:=r.kind.toNat*3) (m:=3) (cs:=Ls y) (c:=[.int .i64 fm,.int .i64 (iG r:Int),.func fn #[] ⟨cap⟩]) rfl rfl rfl (by repeat (first|exact bF .. |apply bB)) hM.at_).h ?_;refine go ?_;intro b11;refine go ?_;refine aG rfl (λh4=>?_) (λh4=>?_)
  ·rw[if_pos h4]at Gh;have hfi:(((fA r).toNat:Nat):Int)=r.family:=by rw[Gh];exact Int.toNat_of_nonneg hf0
   have hL:=Tz (k:=k) (r:=r) (fi:=(fA r).toNat) (vh:=vh) (vs:=.slice wG k.decl.symbols.length cs1) (vr:=vr) (vc:=vc) (vu:=.slice au k.decl.rules.length cu) (gh:=gh) (gc:=.slice ag k.grid.cells.length cg) (vn:=.slice an k.aK.length cn) (vl:=vl) (vp:=vp) (v1:=w.1) (v2:=w.2);rw[hfi]at hL;refine go ?_;refine aZ (fo (b:=b9)) (h:=?_);refine aZ (fo (b:=b10)) (h:=?_);refine aZ (fo (b:=b11)) (h:=?_);refine ax hL (next:=λyl _=>?_);have hL1:=TB (bk:=yl.1) (bf:=yl.2.1) (br:=yl.2.2.1) (bp:=yl.2.2.2) (k:=k) (p:=p) (r:=r) (fi:=(fA r).toNat) (ls:=ls) (vh:=vh) (vs:=.slice wG k.decl.symbols.length cs1) (vr:=vr) (vc:=vc) (vu:=.slice au k.decl.rules.length cu) (gh:=gh) (gc:=.slice ag k.grid.cells.length cg) (vn:=.slice an k.aK.length cn) (vl:=vl) (vp:=vp) (v1:=w.1) (v2:=w.2) hS hpl F8 hls;rw[hfi]at hL1;refine go ?_;refine r9 (λv:Value=>[pt b4 (.cells (kU (oh k p) vv (.slice an k.aK.length cn) v)),ap iW v (j6 k p j)]) qy (h:=?_);refine QT (Z:=Nat) (λ(s:List iU) (x:LA)=>(mP r j s x,Out.normal)) (λs=>[Ak λv:Value=>[pt b4 (.cells (kU (oh k p) vv (.slice an k.aK.length cn) v)),ap iW v s]]) (λvs s=>s=j6 k p j++((vs.map lZ).filter λx=>decide (iG r<=x.2.1.length)).map (jc r j)) (j6 k p j) _ (λx z=>[pt z (.cells [x.2.1.2,x.2.2.2])]) (by simp) (λvs s x rest hs _ _=>by
    have:=yM r j (vs++[x]) (j6 k p j);have h2:=yM r j vs (j6 k p j);rw[hs];show mP r j _ x=_;unfold mP;rw[dM,Gy,dM,rP];by_cases h:iG r<=x.2.1.1.length
    ·rw[if_pos h,List.filter_cons_of_pos (by exact dU h)];simp
    ·rw[if_neg h,List.filter_cons_of_neg (by rw[wU];exact h)];simp) hL1 (by intro s x lo o B w0;dsimp only[Da,yB,List.cons_append,List.nil_append,List.zip_cons_cons,List.zip_nil_left,List.reverse_cons,List.reverse_nil];refine go ?_;intro b14;refine go ?_;exact yf b14 rfl) ?_ ?_ (λ_ _=>trivial)
   ·rintro vs s ⟨at_,⟨cells,wc⟩,⟨vals,wv⟩⟩ rest z lo L B w0 hs hX;have hx:(at_,cells,vals)∈jq p r ls:=by rw[<- hX];exact ed.2 ⟨(at_,(cells,wc),(vals,wv)),by simp,rfl⟩
    have hpre:=TG hf hQ hsl hx;have hml:s.length<=65536:=by
     have h1:=GD (λx:Nat×List Int×List Int=>decide (iG r<=x.2.1.length)) (vs.map lZ);have h2:=congrArg List.length hX;have h3:=hlf _ (bG hls);have h4:=J4 (p:=p) (r:=r) (ls:=ls);rw[bT,fK]at h2;rw[bT]at h1;rw[hs,fK,bT];omega
    have hcc:(jc r j (at_,cells,vals)).cells=cells:=by unfold jc gJ;dsimp only;(repeat' split)<;>rfl
    have hrr:(jc r j (at_,cells,vals)).runs=(gJ r cells vals).runs:=rfl;dsimp only[yB,List.cons_append,List.nil_append,List.reverse_cons,List.reverse_nil];refine fq (E:=ae) (v:=wc) (xs:=cells) (by simp) λak ck ek=>?_;subst ek;have hmk:=hM.ok cells vals hpre (.slice ak cells.length ck) wv w.1 w.2;refine vV (h:=λv=>?_);refine go ?_;refine aG rfl (λh5=>?_) (λh5=>?_)
    ·have hadd:mP r j s (at_,(cells,.slice ak cells.length ck),(vals,wv))=s:=by unfold mP;rw[if_neg (by show¬iG r<=cells.length;omega)]
     rw[hadd];refine go ?_;refine r9 (λv:Value=>[pt b4 (.cells (kU (oh k p) vv (.slice an k.aK.length cn) v)),ap iW v s]) v (h:=?_);exact si () rfl trivial trivial
    have hadd:mP r j s (at_,(cells,.slice ak cells.length ck),(vals,wv))=s++[jc r j (at_,cells,vals)]:=by unfold mP;rw[if_pos (by show iG r<=cells.length;omega)];rfl
    rw[hadd];refine go ?_;refine ax hmk (next:=λvq _=>?_);refine go ?_;intro b15;refine go ?_;intro kJ;refine iD (ai ae (.slice ak cells.length ck) (jc r j (at_,cells,vals)).cells) (λw hw=>by rw[hcc];exact hw (ai ae (.slice ak cells.length ck) cells) (by simp)) ?_;refine iD (ai ae vq (jc r j (at_,cells,vals)).runs) (λw hw=>hw (ai ae vq (gJ r cells vals).runs) (by simp)) ?_;refine kR (xs:=s) iW (jc r j (at_,cells,vals)) (.slice ak cells.length ck,vq) (by omega) (next:=λad=>?_);refine go ?_;refine r9 (λv:Value=>[pt b4 (.cells (kU (oh k p) vv (.slice an k.aK.length cn) v)),ap iW v (s++[jc r j (at_,cells,vals)])]) _ (h:=?_);exact si () rfl trivial trivial
   ·intro rr xs hX;rw[yM,hX];have hnew:j6 k p j++((jq p r ls).filter λx=>decide (iG r<=x.2.1.length)).map (jc r j)=j6 k p (j+1):=by
     rw[J3 hr];unfold uB AV;rw[uq hls]
    rw[hnew];dsimp only[List.cons_append,List.nil_append];refine vV (h:=λv=>?_);refine go ?_;refine PO (rs:=rs) (r:=rr) (h:=?_);exact PR (j+1,v,rr::rs) (by show k.decl.rules.length - (j+1)<k.decl.rules.length - j;omega) (by show j+1<=_;omega)
  ·rw[if_neg h4]at Gh;have hfi:(((fA r).toNat:Nat):Int)=fm:=by rw[Gh];exact Int.toNat_of_nonneg hf0
   have hL:=Tz (k:=k) (r:=r) (fi:=(fA r).toNat) (vh:=vh) (vs:=.slice wG k.decl.symbols.length cs1) (vr:=vr) (vc:=vc) (vu:=.slice au k.decl.rules.length cu) (gh:=gh) (gc:=.slice ag k.grid.cells.length cg) (vn:=.slice an k.aK.length cn) (vl:=vl) (vp:=vp) (v1:=w.1) (v2:=w.2);rw[hfi]at hL;refine go ?_;refine aZ (fo (b:=b9)) (h:=?_);refine aZ (fo (b:=b10)) (h:=?_);refine aZ (fo (b:=b11)) (h:=?_);refine ax hL (next:=λyl _=>?_);have hL1:=TB (bk:=yl.1) (bf:=yl.2.1) (br:=yl.2.2.1) (bp:=yl.2.2.2) (k:=k) (p:=p) (r:=r) (fi:=(fA r).toNat) (ls:=ls) (vh:=vh) (vs:=.slice wG k.decl.symbols.length cs1) (vr:=vr) (vc:=vc) (vu:=.slice au k.decl.rules.length cu) (gh:=gh) (gc:=.slice ag k.grid.cells.length cg) (vn:=.slice an k.aK.length cn) (vl:=vl) (vp:=vp) (v1:=w.1) (v2:=w.2) hS hpl F8 hls;rw[hfi]at hL1;refine go ?_;refine r9 (λv:Value=>[pt b4 (.cells (kU (oh k p) vv (.slice an k.aK.length cn) v)),ap iW v (j6 k p j)]) qy (h:=?_);refine QT (Z:=Nat) (λ(s:List iU) (x:LA)=>(mP r j s x,Out.normal)) (λs=>[Ak λv:Value=>[pt b4 (.cells (kU (oh k p) vv (.slice an k.aK.length cn) v)),ap iW v s]]) (λvs s=>s=j6 k p j++((vs.map lZ).filter λx=>decide (iG r<=x.2.1.length)).map (jc r j)) (j6 k p j) _ (λx z=>[pt z (.cells [x.2.1.2,x.2.2.2])]) (by simp) (λvs s x rest hs _ _=>by
    have:=yM r j (vs++[x]) (j6 k p j);have h2:=yM r j vs (j6 k p j);rw[hs];show mP r j _ x=_;unfold mP;rw[dM,Gy,dM,rP];by_cases h:iG r<=x.2.1.1.length
    ·rw[if_pos h,List.filter_cons_of_pos (by exact dU h)];simp
    ·rw[if_neg h,List.filter_cons_of_neg (by rw[wU];exact h)];simp) hL1 (by intro s x lo o B w0;dsimp only[Da,yB,List.cons_append,List.nil_append,List.zip_cons_cons,List.zip_nil_left,List.reverse_cons,List.reverse_nil];refine go ?_;intro b14;refine go ?_;exact yf b14 rfl) ?_ ?_ (λ_ _=>trivial)
   ·rintro vs s ⟨at_,⟨cells,wc⟩,⟨vals,wv⟩⟩ rest z lo L B w0 hs hX;have hx:(at_,cells,vals)∈jq p r ls:=by rw[<- hX];exact ed.2 ⟨(at_,(cells,wc),(vals,wv)),by simp,rfl⟩
    have hpre:=TG hf hQ hsl hx;have hml:s.length<=65536:=by
     have h1:=GD (λx:Nat×List Int×List Int=>decide (iG r<=x.2.1.length)) (vs.map lZ);have h2:=congrArg List.length hX;have h3:=hlf _ (bG hls);have h4:=J4 (p:=p) (r:=r) (ls:=ls);rw[bT,fK]at h2;rw[bT]at h1;rw[hs,fK,bT];omega
    have hcc:(jc r j (at_,cells,vals)).cells=cells:=by unfold jc gJ;dsimp only;(repeat' split)<;>rfl
    have hrr:(jc r j (at_,cells,vals)).runs=(gJ r cells vals).runs:=rfl;dsimp only[yB,List.cons_append,List.nil_append,List.reverse_cons,List.reverse_nil];refine fq (E:=ae) (v:=wc) (xs:=cells) (by simp) λak ck ek=>?_;subst ek;have hmk:=hM.ok cells vals hpre (.slice ak cells.length ck) wv w.1 w.2;refine vV (h:=λv=>?_);refine go ?_;refine aG rfl (λh5=>?_) (λh5=>?_)
    ·have hadd:mP r j s (at_,(cells,.slice ak cells.length ck),(vals,wv))=s:=by unfold mP;rw[if_neg (by show¬iG r<=cells.length;omega)]
     rw[hadd];refine go ?_;refine r9 (λv:Value=>[pt b4 (.cells (kU (oh k p) vv (.slice an k.aK.length cn) v)),ap iW v s]) v (h:=?_);exact si () rfl trivial trivial
    have hadd:mP r j s (at_,(cells,.slice ak cells.length ck),(vals,wv))=s++[jc r j (at_,cells,vals)]:=by unfold mP;rw[if_pos (by show iG r<=cells.length;omega)];rfl
    rw[hadd];refine go ?_;refine ax hmk (next:=λvq _=>?_);refine go ?_;intro b15;refine go ?_;intro kJ;refine iD (ai ae (.slice ak cells.length ck) (jc r j (at_,cells,vals)).cells) (λw hw=>by rw[hcc];exact hw (ai ae (.slice ak cells.length ck) cells) (by simp)) ?_;refine iD (ai ae vq (jc r j (at_,cells,vals)).runs) (λw hw=>hw (ai ae vq (gJ r cells vals).runs) (by simp)) ?_;refine kR (xs:=s) iW (jc r j (at_,cells,vals)) (.slice ak cells.length ck,vq) (by omega) (next:=λad=>?_);refine go ?_;refine r9 (λv:Value=>[pt b4 (.cells (kU (oh k p) vv (.slice an k.aK.length cn) v)),ap iW v (s++[jc r j (at_,cells,vals)])]) _ (h:=?_);exact si () rfl trivial trivial
   ·intro rr xs hX;rw[yM,hX];have hnew:j6 k p j++((jq p r ls).filter λx=>decide (iG r<=x.2.1.length)).map (jc r j)=j6 k p (j+1):=by
     rw[J3 hr];unfold uB AV;rw[uq hls]
    rw[hnew];dsimp only[List.cons_append,List.nil_append];refine vV (h:=λv=>?_);refine go ?_;refine PO (rs:=rs) (r:=rr) (h:=?_);exact PR (j+1,v,rr::rs) (by show k.decl.rules.length - (j+1)<k.decl.rules.length - j;omega) (by show j+1<=_;omega)
 have o8:j=k.decl.rules.length:=by omega
 subst o8;rw[aaI]at hcl⊢;refine go ?_;refine aG rfl (λh4=>?_) (λh4=>?_)
 ·have hno:¬(lC k p).length<=4096:=by omega
  refine go ?_;exact PP (rs:=rs) ⟨false,2,.slice none 0 0,.slice none 0 0⟩ (hv:=rfl) (hp:=⟨λh=>absurd hK h,λ_ h=>absurd hQ h,λ_ _ _=>rfl,λ_ _ h=>absurd h hno,⟨λh=>(by cases h),λh=>(by cases h)⟩⟩)
 have aed:¬4096<(lC k p).length:=by omega
 refine aZ (kE (E:=iW) (v:=qy) (xs:=lC k p)) (h:=?_);refine go ?_;exact PP (rs:=rs) ⟨true,0,vv,qy⟩ (hv:=rfl) (hp:=⟨λh=>absurd hK h,λ_ h=>absurd hQ h,λ_ _ h=>absurd h aed,λ_ _ _=>rfl,⟨λ_=>rfl,λ_=>rfl⟩⟩)
