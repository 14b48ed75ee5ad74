/-
  Puzzles: the constraints that rules make.
-/
import Derived.Test.YtoohgkkmdnbnfaaGreatDoorLibWF
set_option linter.all false
set_option maxRecDepth 10000
set_option maxHeartbeats 4000000
namespace Go.Proofs.YtoohgkkmdnbnfaaGreatDoor
open Go.Ideal Kd Canon Gph
theorem agR{r:aS}{vals:List Int}{vc vv v1 v2:Value}(h:r.bW≠ko->0<vals.length):dG Tryz.prog 169 [.agg ⟨[vc,vv]⟩,.agg ⟨iM r v1 v2⟩] [ah aa vv vals] (.int .i64 (uB r vals)):=by
 refine aK _ (aP 169) λB w0=>?_;refine go ?_;intro b2 b3;refine go ?_;refine eO (p:=r.bW=ko) (by show Value.bool _=_;rw[dU]) (λh1=>?_) (λh1=>?_)
 ·have h0:=h h1;refine go ?_;intro _ _ y hy;refine go ?_;refine ae () (hv:=?_) (hp:=trivial);unfold uB;rw[if_neg h1,Uq hy];rfl
 ·refine go ?_;refine ae () (hv:=?_) (hp:=trivial);unfold uB;rw[if_pos h1];rfl
theorem UR{r:aS}{vals:List Int}{vc vv v1 v2:Value}{most:Int}(h:r.bW≠ko->0<vals.length):dG Tryz.prog 120 [.agg ⟨[vc,vv]⟩,.agg ⟨iM r v1 v2⟩,.int .i64 most] [ah aa vv vals] (.tuple ⟨[.int .i64 (lW r vals most).1,.int .i64 (lW r vals most).2]⟩):=by
 refine aK _ (aP 120) λB w0=>?_;refine go ?_;intro b3 b4;refine go ?_;refine ax (agR (r:=r) (vals:=vals) (vc:=vc) (vv:=vv) (v1:=v1) (v2:=v2) h) (next:=λ_ _=>?_);refine go ?_;refine az rfl (λh1=>?_) (λh1=>?_)
 ·refine go ?_;refine ae () (hv:=?_) (hp:=trivial);unfold lW;rw[if_pos h1];rfl
 refine go ?_;refine az rfl (λh2=>?_) (λh2=>?_)
 ·refine go ?_;refine(fJ rfl rfl (aas rfl rfl)).h ?_;refine go ?_;refine ae () (hv:=?_) (hp:=trivial);unfold lW;rw[if_neg h1,if_pos h2];rfl
 refine go ?_;refine ae () (hv:=?_) (hp:=trivial);unfold lW;rw[if_neg h1,if_neg h2];rfl
abbrev Cb(k s o lo hi:Int)(vr:Value):Value:=.agg ⟨[.int .i64 k,.slice none 0 0,.int .i64 s,.int .i64 o,.int .i64 lo,.int .i64 hi,vr,.int .i64 0,.int .i64 0]⟩
theorem agS{b:Nat}{k:Int}{r:aS}{vc vv v1 v2:Value}:bz Tryz.prog (.func 119) [.agg ⟨iM r v1 v2⟩,.agg ⟨[vc,vv]⟩] [ptr' b] [] [eB b 0 [.int .i64 k]] (λ_:Unit=>Cb k r.set r.other r.n 0 (.slice none 0 0)) (λ_=>[]) (λ_=>[]) (λ_=>True):=by
 refine aK _ (aP 119) λB w0=>?_;refine go ?_;intro b3 b4 b5;refine go ?_;exact ae () (hv:=rfl) (hp:=trivial)
theorem zV{k:Int}:bz Tryz.prog (.func 74) [.int .i64 k] [] [] [] (λb:Nat=>.func (.func 119) #[] #[ptr' b]) (λ_=>[]) (λb=>[eB b 0 [.int .i64 k]]) (λ_=>True):=by
 refine aK _ (aP 74) λB w0=>?_;refine go ?_;intro b1;refine go ?_;refine bC (eH (b:=b1)) (h:=?_);exact ae b1 (hv:=rfl) (hp:=trivial)
theorem agT{r:aS}{cells vals:List Int}{vc vv v1 v2:Value}(h:r.bW≠ko->0<vals.length):dG Tryz.prog 75 [.agg ⟨iM r v1 v2⟩,.agg ⟨[vc,vv]⟩] [ah aa vc cells,ah aa vv vals] (Cb 2 r.set 0 (lW r vals cells.length).1 (lW r vals cells.length).2 (.slice none 0 0)):=by
 refine aK _ (aP 75) λB w0=>?_;refine go ?_;intro b2 b3 b4;refine go ?_;refine ax (UR (r:=r) (vals:=vals) (vc:=vc) (vv:=vv) (v1:=v1) (v2:=v2) (most:=(cells.length:Int)) h) (next:=λ_ _=>?_);refine go ?_;exact ae () (hv:=rfl) (hp:=trivial)
theorem agU{r:aS}{vals:List Int}{vc vv v1 v2:Value}(h:r.bW≠ko->0<vals.length):dG Tryz.prog 76 [.agg ⟨iM r v1 v2⟩,.agg ⟨[vc,vv]⟩] [ah aa vv vals] (Cb 3 0 0 (lW r vals 65536).1 (lW r vals 65536).2 (.slice none 0 0)):=by
 refine aK _ (aP 76) λB w0=>?_;refine go ?_;intro b2 b3 b4;refine go ?_;refine ax (UR (r:=r) (vals:=vals) (vc:=vc) (vv:=vv) (v1:=v1) (v2:=v2) (most:=65536) h) (next:=λ_ _=>?_);refine go ?_;exact ae () (hv:=rfl) (hp:=trivial)
theorem agV{r:aS}{vals:List Int}{vc vv v1 v2:Value}:dG Tryz.prog 77 [.agg ⟨iM r v1 v2⟩,.agg ⟨[vc,vv]⟩] [ah aa vv vals] (Cb 5 r.set 0 0 0 vv):=by
 refine aK _ (aP 77) λB w0=>?_;refine aV (E:=aa) (v:=vv) (xs:=vals) (by simp) λav cv EF=>?_;subst EF;refine go ?_;intro b2 b3 b4;refine go ?_;exact ae () (hv:=rfl) (hp:=trivial)
theorem agW{r:aS}{vals:List Int}{vc vv v1 v2:Value}(h0:0<vals.length)(hv:∀x∈vals,0<=x/\x<16):dG Tryz.prog 78 [.agg ⟨iM r v1 v2⟩,.agg ⟨[vc,vv]⟩] [ah aa vv vals] (Cb 2 ((1<<<(vals.getD 0 0).toNat:Nat):Int) 0 1 1 (.slice none 0 0)):=by
 refine aK _ (aP 78) λB w0=>?_;refine go ?_;intro b2 b3 b4;refine go ?_;intro _ _ y hy;have hyv:=hv y (bI hy);obtain⟨n,rfl⟩:=tO hyv.1;have hlt:(1:Nat)<<<n<9223372036854775808:=by
  rw[Nat.one_shiftLeft];exact kT (Jh (by omega) (show n<16 by omega)) (by decide)
 refine q_p (K6 (a:=1) (b:=n) rfl rfl (by omega) hlt) ?_;refine go ?_;refine ae () (hv:=?_) (hp:=trivial);rw[Uq hy,Cj];rfl
structure EL where
 b1:Nat
 b4:Nat
 b6:Nat
 b7:Nat
 b8:Nat
 b9:Nat
 b10:Nat
abbrev zW(b:Nat):Value:=.func (.func 119) #[] #[ptr' b]
abbrev Ns(y:EL):List Value:=[.int .i64 0,.int .i64 0,.nilFunc,.int .i64 (-1),.int .i64 2,zW y.b1,.int .i64 (-1),.int .i64 0,.func (.func 75) #[] #[],.int .i64 (-1),.int .i64 0,.func (.func 76) #[] #[],
 .int .i64 (-1),.int .i64 2,zW y.b4,.int .i64 (-1),.int .i64 0,.func (.func 77) #[] #[],.int .i64 6,.int .i64 0,zW y.b6,.int .i64 6,.int .i64 0,zW y.b7,.int .i64 6,.int .i64 0,zW y.b8,.int .i64 7,.int .i64 0,zW y.b9,.int .i64 7,.int .i64 0,zW y.b10,.int .i64 0,.int .i64 0,.func (.func 78) #[] #[]]
abbrev UT(y:EL):List aF:=[eB y.b1 0 [.int .i64 1],eB y.b4 0 [.int .i64 4],eB y.b6 0 [.int .i64 1],eB y.b7 0 [.int .i64 6],eB y.b8 0 [.int .i64 7],eB y.b9 0 [.int .i64 8],eB y.b10 0 [.int .i64 9]]
theorem agX:bz Tryz.prog (.func 47) [] [] [] [] (λy:EL=>.agg ⟨Ns y⟩) (λ_=>[]) UT (λ_=>True):=by
 refine aK _ (aP 47) λB w0=>?_;refine go ?_;intro b0;refine ax (zV (k:=1)) (next:=λb1 _=>?_);refine go ?_;refine ax (zV (k:=4)) (next:=λb4 _=>?_);refine go ?_;refine ax (zV (k:=1)) (next:=λb6 _=>?_);refine go ?_;refine ax (zV (k:=6)) (next:=λb7 _=>?_);refine go ?_;refine ax (zV (k:=7)) (next:=λb8 _=>?_);refine go ?_;refine ax (zV (k:=8)) (next:=λb9 _=>?_);refine go ?_;refine ax (zV (k:=9)) (next:=λb10 _=>?_);dsimp only[List.cons_append,List.nil_append];refine go ?_;exact ae ⟨b1,b4,b6,b7,b8,b9,b10⟩ (hv:=rfl) (hp:=trivial)
structure Nt(p:List Clue)(t:Clue)(y:Nat×Bool):Prop where
 le:y.1<=p.length
 lo:∀(j:Nat) g,j<y.1->p[j]? =some g->fK g t<0
 hi:∀(j:Nat) g,y.1<=j->p[j]? =some g->¬fK g t<0
 is:y.2=true↔∃g,p[y.1]? =some g/\fK g t=0
def IV(p:List Clue):Prop:=∀(i j:Nat) a b,i<j->p[i]? =some a->p[j]? =some b->fK a b<0
theorem agY{v vt:Value}{p:List Clue}{t:Clue}(hl:p.length<4611686018427387904)(hs:IV p):
 bz Tryz.prog (.func 80) [v,HZ t vt,.func (.func 38) #[] #[]] [] [] [ah j6 v p] (λy:Nat×Bool=>.tuple ⟨[.int .i64 (y.1:Int),.bool y.2]⟩) (λ_=>[]) (λ_=>[]) (Nt p t):=by
 refine aK _ (aP 80) λB w0=>?_;refine go ?_;intro b4;refine go ?_;refine bi (λy:Nat×Nat=>y.2 - y.1) (λy=>[(9,.int .i64 (y.1:Int)),(10,.int .i64 (y.2:Int))]) (λ_=>[]) (λ_=>[]) (λy=>y.1<=y.2/\y.2<=p.length/\(∀(j:Nat) g,j<y.1->p[j]? =some g->fK g t<0)/\(∀(j:Nat) g,y.2<=j->p[j]? =some g->¬fK g t<0)) (0,p.length) ⟨cB _,bP _,λj x hj=>by omega,λj x hj hx=>by have:=(bN.1 hx).1;omega⟩ (body:=?_);rintro⟨a,b⟩ ⟨hab,hb,hlo,hhi⟩;dsimp only at hab hb hlo hhi⊢;refine go ?_;refine az rfl (λh1=>?_) (λh1=>?_)
 ·have Dj:a<=(a+b)>>>1/\(a+b)>>>1<b:=by
   rw[Vm];omega
  generalize hm:(a+b)>>>1=m at Dj;refine go ?_;rw[show(a:Int)+(b:Int)=((a+b:Nat):Int)by omega];refine(fJ rfl rfl (DZ (k:=.u64) (m:=((a+b:Nat):Int)) (by kernel_rfl:Tryz.prog.underlying 3=some (.int .i64)) (by kernel_rfl) rfl (Rt (by omega)))).h ?_;refine(fJ rfl rfl (Ru (a:=a+b) (b:=1) rfl rfl (by omega))).h ?_;rw[hm];refine(fJ rfl rfl (DZ (k:=.i64) (m:=(m:Int)) (by kernel_rfl:Tryz.prog.underlying 63=some (.int .u64)) (by kernel_rfl) rfl (wrapN (by omega)))).h ?_;refine go ?_;refine aZ j6 (xs:=p) (next:=λ_ _ x (vx:Value) hx=>?_);refine go ?_;refine ax (M6 (a:=x) (b:=t) (va:=vx) (vb:=vt)) (next:=λ_ _=>?_);refine go ?_;refine az rfl (λh2=>?_) (λh2=>?_)
  ·refine go ?_;refine aQ (m+1,b) (by show b - (m+1)<b - a;omega) ⟨by show m+1<=b;omega,hb,λj u hj hu=>?_,hhi⟩;by_cases e:j=m
   ·subst e;rw[hx]at hu;cases hu;exact h2
   ·exact Ed (hs j m u x (by have:j<m+1:=hj;omega) hu hx) h2
  ·refine go ?_;refine aQ (a,m) (by show m - a<b - a;omega) ⟨by show a<=m;omega,by show m<=_;omega,hlo,λj u hj hu=>?_⟩;by_cases e:j=m
   ·subst e;rw[hx]at hu;cases hu;exact h2
   ·exact λh3=>h2 (Ed (hs m j x u (by have:m<=j:=hj;omega) hx hu) h3)
 have hba:b=a:=by omega
 subst hba;refine go ?_;first|with_reducible refine aL (λh2=>?_) (λh2=>?_)|with_reducible refine aO (λh2=>?_) (λh2=>?_)|with_reducible refine aM (λh2=>?_) (λh2=>?_)
 ·have hn:p[b]? =none:=iB (by omega);refine go ?_;exact ae (b,false) (hv:=rfl) (hp:=⟨by show b<=_;omega,hlo,hhi,by show false=true↔∃g,p[b]? =some g/\_;rw[hn];simp⟩)
 refine go ?_;refine aZ j6 (xs:=p) (next:=λ_ _ x (vx:Value) hx=>?_);refine go ?_;refine ax (M6 (a:=x) (b:=t) (va:=vx) (vb:=vt)) (next:=λ_ _=>?_);refine go ?_;refine ae (b,decide (fK x t=0)) (hv:=rfl) (hp:=⟨by show b<=_;omega,hlo,hhi,?_⟩);show decide (fK x t=0)=true↔∃g,p[b]? =some g/\fK g t=0;rw[hx,wO];exact⟨λh=>⟨x,rfl,h⟩,λ⟨g,h1,h2⟩=>by cases h1;exact h2⟩
theorem Nt.find{p:List Clue}{c:Int}{n:Nat}{y:Nat×Bool}(hs:IV p)(h:Nt p ⟨c,(n:Int),[]⟩ y):(y.2=true->∃g,p[y.1]? =some g/\nH p c (n:Int)=some g.values)/\(y.2=false->nH p c (n:Int)=none):=by
 have hz:∀g:Clue,fK g ⟨c,(n:Int),[]⟩=0↔g.aG=c/\g.at_=(n:Int):=λg=>by
  unfold fK;simp only[rH];have h1:=xB.zero g.aG c;have h2:=xB.zero g.at_ (n:Int);by_cases e:fQ g.aG c=0
  ·rw[if_neg (by simpa using e)];by_cases e2:fQ g.at_ (n:Int)=0
   ·rw[if_neg (by simpa using e2)];exact⟨λ_=>⟨h1.1 e,h2.1 e2⟩,λ_=>rfl⟩
   ·rw[if_pos e2];exact⟨λh=>absurd h e2,λh=>absurd (h2.2 h.2) e2⟩
  ·rw[if_pos e];exact⟨λh=>absurd h e,λh=>absurd (h1.2 h.1) e⟩
 have agZ:∀(i j:Nat) a b,p[i]? =some a->p[j]? =some b->fK a ⟨c,(n:Int),[]⟩=0->fK b ⟨c,(n:Int),[]⟩=0->i=j:=by
  intro i j a b ha hb h1 h2;have e1:=(hz a).1 h1;have e2:=(hz b).1 h2;rcases Nat.lt_trichotomy i j with hl|hl|hl
  ·have:=sQ.1 (hs i j a b hl ha hb);omega
  ·exact hl
  ·have:=sQ.1 (hs j i b a hl hb ha);omega
 constructor
 ·intro hy;obtain⟨g,hg,h0⟩:=h.is.1 hy;refine⟨g,hg,?_⟩;unfold nH;cases hf:p.find? (λg=>decide (g.aG=c/\g.at_=(n:Int)))with
  |none=>
   have:=EY.1 hf g (bI hg);exact absurd (dZ ((hz g).1 h0)) this
  |some g2=>
   have h2':=List.find?_some hf;have h2:g2.aG=c/\g2.at_=(n:Int):=gQ h2';obtain⟨j,hj⟩:=mH (NN hf);have:=agZ _ _ _ _ hg hj h0 ((hz g2).2 h2);subst this;rw[hg]at hj;cases hj;rfl
 ·intro hy;unfold nH;rw[show p.find? (λg=>decide (g.aG=c/\g.at_=(n:Int)))=none from EY.2 λg hg hd=>by
   have hd:=gQ hd;have h0:=(hz g).2 hd;obtain⟨j,hj⟩:=mH hg;by_cases hlt:j<y.1
   ·have:=h.lo j g hlt hj;omega
   ·by_cases e:j=y.1
    ·subst e;have:=h.is.2 ⟨g,hj,h0⟩;rw[hy]at this;cases this
    ·have hyl:y.1<p.length:=by have:=(bN.1 hj).1;omega
     have hq:p[y.1]? =some p[y.1]:=cz hyl;have h1:=hs y.1 j _ g (by omega) hq hj;have h2:=h.hi y.1 _ (bP _) hq;apply h2;have e1:=sQ.1 h1;rw[sQ];show p[y.1].aG<c\/p[y.1].aG=c/\p[y.1].at_<(n:Int);omega]
  rfl
theorem UU{k:bT}{r:aS}{fi:Nat}{vh vs vr vc vu gh gc vn vl vp v1 v2:Value}:
 bz Tryz.prog (.func 48) [.agg ⟨l6 k vh vs vr vc vu gh gc vn vl⟩,.agg ⟨[vp]⟩,.agg ⟨iM r v1 v2⟩,.int .i64 (fi:Int)] [] [] [] (λy:Nat×Nat×Nat×Nat=>.func (.func 79) #[] #[ptr' y.1,ptr' y.2.1,ptr' y.2.2.1,ptr' y.2.2.2]) (λ_=>[])
  (λy=>[eB y.1 0 (l6 k vh vs vr vc vu gh gc vn vl),eB y.2.1 0 [.int .i64 (fi:Int)],eB y.2.2.1 0 (iM r v1 v2),eB y.2.2.2 0 [vp]]) (λ_=>True):=by
 refine aK _ (aP 48) λB w0=>?_;refine go ?_;intro b4 b5 b6 b7;refine go ?_;refine bC (eH (b:=b4)) (h:=?_);refine bC (eH (b:=b5)) (h:=?_);refine bC (eH (b:=b6)) (h:=?_);refine bC (eH (b:=b7)) (h:=?_);exact ae (b4,b7,b6,b5) (hv:=rfl) (hp:=trivial)
theorem ag0{B:List Nat}{w0:Wd}{kl:List OA}{F:List aF}{Q:IH->Prop}(f:aF)(hf:∀w,f.p w)(h:R Q B w0 kl (f::F)):R Q B w0 kl F:=λw s=>
 h w ⟨s.agree,s.le,s.fF,s.own,λg hg=>by
  rcases dD.1 hg with rfl|hg
  ·exact hf w
  ·exact s.facts g hg⟩
def yB(p:List Clue)(r:aS)(ls:List (List Int))(j:Nat):List (Nat×List Int×List Int):=((ls.drop j).zipIdx (0+(ls.take j).length)).filterMap (rJ p r)
theorem UW{p:List Clue}{r:aS}{ls:List (List Int)}(j:Nat):jD p r ls=jD p r (ls.take j)++yB p r ls j:=by
 unfold jD yB;rw[<- NQ,<- Co,rT]
theorem UX{bk bf br bp:Nat}{k:bT}{p:List Clue}{r:aS}{fi:Nat}{ls:List (List Int)}{vh vs vr vc vu gh gc vn vl vp v1 v2:Value}(hS:pO k)(hl:p.length<4611686018427387904)(hs:IV p)(hls:k.lists[fi]? =some ls):
 Lx Tryz.prog Ef zC (.func 79) [] [ptr' bk,ptr' bf,ptr' br,ptr' bp] [eB bk 0 (l6 k vh vs vr vc vu gh gc vn vl),eB bf 0 [.int .i64 (fi:Int)],eB br 0 (iM r v1 v2),eB bp 0 [vp],ah (aj (aj aa)) vl k.lists,ah j6 vp p] (λxs=>xs.map nI=jD p r ls):=by
 intro S inv ok step s0 uq y1 y2 F' h0 hok hy;rw[dF,dF,dF,dF,dF,dF,bY];refine aK _ (aP 79) λB w0=>?_;have hll:=(hS.lists.2 ls (bI hls)).1;have hfi:=(bN.1 hls).1;refine go ?_;refine aZ (aj (aj aa)) (xs:=k.lists) (next:=λ_ _ ls2 (EH:Value) UY=>?_);rw[hls]at UY;obtain rfl:ls=ls2:=Option.some.inj UY;refine go ?_;refine bi (λy:Nat×List LA×S=>ls.length - y.1) (λy=>[(17,.int .i64 (y.1:Int))]) (λy=>inv y.2.2) (λ_=>[]) (λy=>y.1<=ls.length/\ok y.2.1 y.2.2/\y.2.1.map nI=jD p r (ls.take y.1)/\∀rest,gM step s0 (y.2.1++rest)=gM step y.2.2 rest) (0,[],s0) ⟨cB _,h0,rfl,λ_=>rfl⟩ (body:=?_);rintro⟨j,fC,s⟩ ⟨hj,hos,yC,hrun⟩;dsimp only at hj hos yC hrun⊢;refine go ?_;refine az rfl (λh1=>?_) (λh1=>?_)
 rotate_left
 ·have jr:j=ls.length:=by omega
  subst jr;rw[bK]at yC;have hr2:=hrun [];rw[gK]at hr2;refine go ?_;exact ae fC (hv:=rfl) (hp:=yC) (hk:=by rw[hr2];exact aH.all _)
 refine go ?_;refine aZ (aj aa) (xs:=ls) (next:=λ_ _ ps (vps:Value) hps=>?_);have Cc:=ab6 (p:=p) (r:=r) hps;refine aV (E:=aa) (v:=vps) (xs:=ps) (by simp) λap cp ep=>?_;subst ep;refine go ?_;intro b8;refine go ?_;refine az rfl (λh2=>?_) (λh2=>?_)
 ·have hlr:rJ p r (ps,j)=(nH p r.aG (j:Int)).map λv=>(j,ps,v):=by unfold rJ;rw[if_neg (by omega)]
  refine go ?_;refine ax (agY (p:=p) (t:=⟨r.aG,(j:Int),[]⟩) (vt:=.slice none 0 0) hl hs) (next:=λy hy2=>?_);have u7:=hy2.find hs;obtain⟨n,fd⟩:=y;dsimp only at u7⊢;rw[bY];cases fd with
  |false=>
   have hnn:=u7.2 rfl;rw[hlr,hnn]at Cc;refine go ?_;exact aQ (j+1,fC,s) (by show ls.length - (j+1)<ls.length - j;omega) ⟨by show j+1<=_;omega,hos,by show fC.map nI=_;rw[yC,Cc];exact(gK _).symm,hrun⟩
  |true=>
   obtain⟨g,hg,hfg⟩:=u7.1 rfl;have Px:=(bN.1 hg).1;rw[hlr,hfg]at Cc;refine go ?_;refine abj j6 3 rfl hg λb o f cc yc ec=>?_;subst ec;rw[show j6.fs g yc=[ah aa yc g.values]from rfl,dF,bY,show j6.pat g yc=[.int .i64 g.aG,.int .i64 g.at_,yc]from rfl];refine go ?_;refine(Qn (b:=b) (o:=o+n*3) (j:=2) (cs:=[.int .i64 g.aG,.int .i64 g.at_,yc]) (v:=yc) rfl rfl rfl (dL ..) rfl).h ?_;refine aV (E:=aa) (v:=yc) (xs:=g.values) (by simp) λaq cq eq=>?_;subst eq;generalize hxd:((j,(ps,Value.slice ap ps.length cp),(g.values,Value.slice aq g.values.length cq)):LA)=x;have hnx:jD p r (ls.take (j+1))=jD p r (ls.take j)++[nI x]:=by rw[Cc,<- hxd];rfl
   have hX:(fC++x::xV (yB p r ls (j+1))).map nI=jD p r ls:=by
    rw[dY,gN,SC,yC];conv=>rhs;rw[UW (j+1),hnx,fq]
    rfl
   have nK:=hy _ s _ _ hos hX;rw[show Ef x=[.int .i64 (j:Int),.agg ⟨[.slice ap ps.length cp,.slice aq g.values.length cq]⟩]by rw[<- hxd];rfl,show zC x=[ah aa (.slice ap ps.length cp) ps,ah aa (.slice aq g.values.length cq) g.values]by rw[<- hxd];rfl]at nK;rw[dF,dF,bY]at nK;refine go ?_;refine ax nK (next:=λ_ _=>?_);cases hst:(step s x).2 with
   |true=>
    have hs1:step s x=((step s x).1,true):=Prod.ext rfl hst;refine go ?_;refine aQ (j+1,fC++[x],(step s x).1) (by show ls.length - (j+1)<ls.length - j;omega) ⟨by show j+1<=_;omega,hok _ s _ _ hos hX hst,?_,λrest=>?_⟩
    ·show(fC++[x]).map nI=_;rw[dY,oh,yC];exact hnx.symm
    ·show gM step s0 (fC++[x]++rest)=_;rw[fq,hrun];show gM step s (x::rest)=_;rw[gM,hs1]
   |false=>
    have hs1:step s x=((step s x).1,false):=Prod.ext rfl hst;have hr:=hrun (x::xV (yB p r ls (j+1)));rw[gM,hs1]at hr;dsimp only at hr;refine go ?_;exact ae (fC++x::xV (yB p r ls (j+1))) (hv:=rfl) (hp:=hX) (hk:=by rw[hr];first|exact aH.all _|exact aH.self _ _)
 ·have hlr:rJ p r (ps,j)=some (j,ps,[]):=by unfold rJ;rw[if_pos (by omega)]
  rw[hlr]at Cc;refine ag0 (ah aa (.slice none 0 0) ([]:List Int)) (λw=>.inl ⟨rfl,none,0,rfl,trivial⟩) ?_;generalize hxd:((j,(ps,Value.slice ap ps.length cp),(([]:List Int),Value.slice none 0 0)):LA)=x;have hnx:jD p r (ls.take (j+1))=jD p r (ls.take j)++[nI x]:=by rw[Cc,<- hxd];rfl
  have hX:(fC++x::xV (yB p r ls (j+1))).map nI=jD p r ls:=by
   rw[dY,gN,SC,yC];conv=>rhs;rw[UW (j+1),hnx,fq]
   rfl
  have nK:=hy _ s _ _ hos hX;rw[show Ef x=[.int .i64 (j:Int),.agg ⟨[.slice ap ps.length cp,.slice none 0 0]⟩]by rw[<- hxd];rfl,show zC x=[ah aa (.slice ap ps.length cp) ps,ah aa (.slice none 0 0) []]by rw[<- hxd];rfl]at nK;rw[dF,dF,bY]at nK;refine go ?_;refine ax nK (next:=λ_ _=>?_);cases hst:(step s x).2 with
  |true=>
   have hs1:step s x=((step s x).1,true):=Prod.ext rfl hst;refine go ?_;refine aQ (j+1,fC++[x],(step s x).1) (by show ls.length - (j+1)<ls.length - j;omega) ⟨by show j+1<=_;omega,hok _ s _ _ hos hX hst,?_,λrest=>?_⟩
   ·show(fC++[x]).map nI=_;rw[dY,oh,yC];exact hnx.symm
   ·show gM step s0 (fC++[x]++rest)=_;rw[fq,hrun];show gM step s (x::rest)=_;rw[gM,hs1]
  |false=>
   have hs1:step s x=((step s x).1,false):=Prod.ext rfl hst;have hr:=hrun (x::xV (yB p r ls (j+1)));rw[gM,hs1]at hr;dsimp only at hr;refine go ?_;exact ae (fC++x::xV (yB p r ls (j+1))) (hv:=rfl) (hp:=hX) (hk:=by rw[hr];first|exact aH.all _|exact aH.self _ _)
theorem EM{P:Program}{Y Z:Type}{fn:Fn}{args cap:List Value}{kl:List OA}{F:List aF}{val:Y->Value}{UZ:Z->Value}{kl':Y->List OA}{dK:Z->List OA}{fs:Y->List aF}{IR:Z->List aF}{pr:Y->Prop}{U0:Z->Prop}(h:bz P fn args cap kl F val kl' fs pr)(g:Y->Z)
 (hv:∀y,pr y->val y=UZ (g y)) (hk:∀y,kl' y=dK (g y)) (hf:∀y (w:Wd),pr y->(∀f∈F,f.p w)->(∀f∈fs y,f.p w)->∀f∈IR (g y),f.p w) (hp:∀y,pr y->U0 (g y)):bz P fn args cap kl F UZ dK IR U0:=λB w s=>by
 refine .qj _ (h B w s) ?_;rintro r pm h' ⟨e,w',y,e1,st,er,hp'⟩;exact⟨e,w',g y,e1,⟨st.agree,st.le,st.fF,hk y▸st.own,hf y w' hp' (λf hf=>f.mono st.le (s.facts f hf)) st.facts⟩,er.trans (congrArg iD.ok (hv y hp')),hp y hp'⟩
abbrev Ce(fn:Fn)(cap:List Value)(F:List aF)(r:aS)(cells vals:List Int):Prop:=∀vc vv v1 v2:Value,
 bz Tryz.prog fn [.agg ⟨iM r v1 v2⟩,.agg ⟨[vc,vv]⟩] cap [] (ah aa vc cells::ah aa vv vals::F) (λvr:Value=>Cb (jG r cells vals).kind (jG r cells vals).set (jG r cells vals).other (jG r cells vals).lo (jG r cells vals).hi vr) (λ_=>[]) (λvr=>[ah aa vr (jG r cells vals).runs]) (λ_=>True)
def EN(r:aS)(vals:List Int):Prop:=(r.kind=2\/r.kind=3->r.bW≠ko->0<vals.length)/\(r.kind=11->0<vals.length/\∀x∈vals,0<=x/\x<16)
theorem IW(w:Wd):(ah aa (.slice none 0 0) ([]:List Int)).p w:=.inl ⟨rfl,none,0,rfl,trivial⟩
theorem zX{b:Nat}{F:List aF}{r:aS}{kd:Int}{cells vals:List Int}(hk:SB r.kind=kd)(hn:r.kind≠2/\r.kind≠3/\r.kind≠5/\r.kind≠11)(hF:eB b 0 [.int .i64 kd]∈F):Ce (.func 119) [ptr' b] F r cells vals:=by
 intro vc vv v1 v2;have e:jG r cells vals=⟨kd,cells,r.set,r.other,r.n,0,[],0,0⟩:=by simp[jG,hn,hk]
 rw[e];exact EM ((agS (b:=b) (k:=kd) (r:=r) (vc:=vc) (vv:=vv) (v1:=v1) (v2:=v2)).facts (λf hf=>by rw[bH.1 hf];exact dI _ (dI _ hF))) (λ_=>Value.slice none 0 0) (λ_ _=>rfl) (λ_=>rfl) (λ_ w _ _ _ f hf=>by rw[bH.1 hf];exact IW w) (λ_ _=>trivial)
theorem ag3{F:List aF}{r:aS}{cells vals:List Int}(hk:r.kind=2)(hp:EN r vals):Ce (.func 75) [] F r cells vals:=by
 intro vc vv v1 v2;have e:jG r cells vals=⟨2,cells,r.set,0,(lW r vals cells.length).1,(lW r vals cells.length).2,[],0,0⟩:=by simp[jG,hk]
 rw[e];exact EM ((agT (r:=r) (cells:=cells) (vals:=vals) (vc:=vc) (vv:=vv) (v1:=v1) (v2:=v2) (hp.1 (.inl hk))).facts (λf hf=>by simp only[dD,ET,or_false]at hf⊢;rcases hf with rfl|rfl<;>simp)) (λ_=>Value.slice none 0 0) (λ_ _=>rfl) (λ_=>rfl) (λ_ w _ _ _ f hf=>by rw[bH.1 hf];exact IW w) (λ_ _=>trivial)
theorem ag4{F:List aF}{r:aS}{cells vals:List Int}(hk:r.kind=3)(hp:EN r vals):Ce (.func 76) [] F r cells vals:=by
 intro vc vv v1 v2;have e:jG r cells vals=⟨3,cells,0,0,(lW r vals 65536).1,(lW r vals 65536).2,[],0,0⟩:=by simp[jG,hk]
 rw[e];exact EM ((agU (r:=r) (vals:=vals) (vc:=vc) (vv:=vv) (v1:=v1) (v2:=v2) (hp.1 (.inr hk))).facts (λf hf=>by rw[bH.1 hf];simp)) (λ_=>Value.slice none 0 0) (λ_ _=>rfl) (λ_=>rfl) (λ_ w _ _ _ f hf=>by rw[bH.1 hf];exact IW w) (λ_ _=>trivial)
theorem ag5{F:List aF}{r:aS}{cells vals:List Int}(hk:r.kind=5):Ce (.func 77) [] F r cells vals:=by
 intro vc vv v1 v2;have e:jG r cells vals=⟨5,cells,r.set,0,0,0,vals,0,0⟩:=by simp[jG,hk]
 rw[e];exact EM ((agV (r:=r) (vals:=vals) (vc:=vc) (vv:=vv) (v1:=v1) (v2:=v2)).facts (λf hf=>by rw[bH.1 hf];simp)) (λ_=>vv) (λ_ _=>rfl) (λ_=>rfl) (λ_ w _ hF _ f hf=>by rw[bH.1 hf];exact hF _ (by simp)) (λ_ _=>trivial)
theorem ag6{F:List aF}{r:aS}{cells vals:List Int}(hk:r.kind=11)(hp:EN r vals):Ce (.func 78) [] F r cells vals:=by
 intro vc vv v1 v2;have e:jG r cells vals=⟨2,cells,((1<<<(vals.getD 0 0).toNat:Nat):Int),0,1,1,[],0,0⟩:=by simp[jG,hk]
 rw[e];exact EM ((agW (r:=r) (vals:=vals) (vc:=vc) (vv:=vv) (v1:=v1) (v2:=v2) (hp.2 hk).1 (hp.2 hk).2).facts (λf hf=>by rw[bH.1 hf];simp)) (λ_=>Value.slice none 0 0) (λ_ _=>rfl) (λ_=>rfl) (λ_ w _ _ _ f hf=>by rw[bH.1 hf];exact IW w) (λ_ _=>trivial)
structure ag7(y:EL)(r:aS)(fm:Int)(fn:Fn)(cap:List Value):Prop where
 at_:iT (jw (Ns y) (r.kind.toNat*3)) 3=some [.int .i64 fm,.int .i64 (jo r:Int),.func fn #[] ⟨cap⟩]
 pG:(if fm<0 then r.family else fm)=fD r
 ok:∀cells vals,EN r vals->Ce fn cap (UT y) r cells vals
theorem ag8(y:EL){r:aS}(h:1<=r.kind/\r.kind<=11):∃fm fn cap,ag7 y r fm fn cap:=by
 have hk:r.kind=1\/r.kind=2\/r.kind=3\/r.kind=4\/r.kind=5\/r.kind=6\/r.kind=7\/r.kind=8\/r.kind=9\/r.kind=10\/r.kind=11:=by omega
 rcases hk with e|e|e|e|e|e|e|e|e|e|e
 ·exact⟨-1,.func 119,[ptr' y.b1],by rw[e,jo,if_pos (.inl e)];rfl,by unfold fD;rw[if_pos (by omega),if_neg (by omega),if_neg (by omega),if_neg (by omega)],λcells vals hp=>zX (kd:=1) (by rw[e];rfl) (by omega) (by simp)⟩
 ·exact⟨-1,.func 75,[],by rw[e,jo,if_neg (by omega)];rfl,by unfold fD;rw[if_pos (by omega),if_neg (by omega),if_neg (by omega),if_neg (by omega)],λcells vals hp=>ag3 e hp⟩
 ·exact⟨-1,.func 76,[],by rw[e,jo,if_neg (by omega)];rfl,by unfold fD;rw[if_pos (by omega),if_neg (by omega),if_neg (by omega),if_neg (by omega)],λcells vals hp=>ag4 e hp⟩
 ·exact⟨-1,.func 119,[ptr' y.b4],by rw[e,jo,if_pos (.inr e)];rfl,by unfold fD;rw[if_pos (by omega),if_neg (by omega),if_neg (by omega),if_neg (by omega)],λcells vals hp=>zX (kd:=4) (by rw[e];rfl) (by omega) (by simp)⟩
 ·exact⟨-1,.func 77,[],by rw[e,jo,if_neg (by omega)];rfl,by unfold fD;rw[if_pos (by omega),if_neg (by omega),if_neg (by omega),if_neg (by omega)],λcells vals hp=>ag5 e⟩
 ·exact⟨6,.func 119,[ptr' y.b6],by rw[e,jo,if_neg (by omega)];rfl,by unfold fD;rw[if_neg (by omega),if_pos (by omega)],λcells vals hp=>zX (kd:=1) (by rw[e];rfl) (by omega) (by simp)⟩
 ·exact⟨6,.func 119,[ptr' y.b7],by rw[e,jo,if_neg (by omega)];rfl,by unfold fD;rw[if_neg (by omega),if_pos (by omega)],λcells vals hp=>zX (kd:=6) (by rw[e];rfl) (by omega) (by simp)⟩
 ·exact⟨6,.func 119,[ptr' y.b8],by rw[e,jo,if_neg (by omega)];rfl,by unfold fD;rw[if_neg (by omega),if_pos (by omega)],λcells vals hp=>zX (kd:=7) (by rw[e];rfl) (by omega) (by simp)⟩
 ·exact⟨7,.func 119,[ptr' y.b9],by rw[e,jo,if_neg (by omega)];rfl,by unfold fD;rw[if_neg (by omega),if_neg (by omega),if_pos (by omega)],λcells vals hp=>zX (kd:=8) (by rw[e];rfl) (by omega) (by simp)⟩
 ·exact⟨7,.func 119,[ptr' y.b10],by rw[e,jo,if_neg (by omega)];rfl,by unfold fD;rw[if_neg (by omega),if_neg (by omega),if_pos (by omega)],λcells vals hp=>zX (kd:=9) (by rw[e];rfl) (by omega) (by simp)⟩
 ·exact⟨0,.func 78,[],by rw[e,jo,if_neg (by omega)];rfl,by unfold fD;rw[if_neg (by omega),if_neg (by omega),if_neg (by omega),if_pos (by omega)],λcells vals hp=>ag6 e hp⟩
structure IX where
 ok:Bool
 e:Int
 vv:Value
 vc:Value
abbrev ag9:List Value:=[.int .i64 0,.int .i64 0,.slice none 0 0,.slice none 0 0,.slice none 0 0]
abbrev Nu(k:bT)(p:List Clue)(vn:Value)(y:IX):Value:=.tuple ⟨[.agg ⟨cond y.ok (sZ (tq k p) y.vv vn y.vc) ag9⟩,.int .i64 y.e]⟩
abbrev Nv(k:bT)(p:List Clue)(y:IX):List aF:=cond y.ok [ah aa y.vv (EI k),ah mX y.vc (jH k p)] []
structure IY(k:bT)(p:List Clue)(y:IX):Prop where
 nk:¬fV k->y.e=180
 np:fV k->¬kQ k p->y.e=190
 nl:fV k->kQ k p->4096<(jH k p).length->y.e=2
 ok:fV k->kQ k p->(jH k p).length<=4096->y.e=0
 eq:y.ok=true↔y.e=0
theorem U4{k:bT}{p:List Clue}{r:aS}{ls:List (List Int)}(hf:RF k r)(hQ:kQ k p)(hs:k.decl.symbols.length<=16){y:Nat×List Int×List Int}(hy:y∈jD p r ls):EN r y.2.2:=by
 have hb:=hf.UO;rcases hf.vals hQ hy with h|⟨h0,c,_,_,h|h|h⟩
 ·refine⟨λ_ hn=>absurd (hb.2 h.1) hn,λhk=>?_⟩;have:=hf.ncl (.inr hk);omega
 ·exact⟨λhk=>by omega,λ_=>⟨by omega,λx hx=>by have:=h.2.2.2 x hx;omega⟩⟩
 ·exact⟨λ_ _=>by omega,λhk=>by omega⟩
 ·exact⟨λhk=>by omega,λhk=>by omega⟩
def nY(r:aS)(i:Nat)(s:List kM)(x:LA):List kM:=if jo r<=x.2.1.1.length then s++[iR r i (nI x)]else s
theorem zY(r:aS)(i:Nat):∀(xs:List LA) (s:List kM),jc (λs x=>(nY r i s x,Out.normal)) s xs=(s++((xs.map nI).filter λx=>decide (jo r<=x.2.1.length)).map (iR r i),Out.normal)
 |[],s=>by simp[jc]
 |x::xs,s=>by
  rw[jc];dsimp only;rw[zY r i xs];unfold nY;rw[gN,I6];by_cases h:jo r<=x.2.1.1.length
  ·rw[if_pos h,if_pos (by exact dZ h),gN,fq];rfl
  ·rw[if_neg h,if_neg (by rw[wO];exact h)]
set_option maxRecDepth 100000 in
theorem aha{k:bT}{p:List Clue}{vh vs vr vc vu gh gc vn vl vp:Value}(hS:pO k)(hP:EG p):
 bz Tryz.prog (.func 21) [.agg ⟨l6 k vh vs vr vc vu gh gc vn vl⟩,.agg ⟨[vp]⟩] [] [] (ah j6 vp p::mW k vh vs vr vc vu gh gc vn vl []) (Nu k p vn) (λ_=>[]) (Nv k p) (IY k p):=by
 refine DK _ (aP 21) λB w0=>?_;refine aV (E:=fA) (v:=vs) (xs:=k.decl.symbols) (by simp) λlF cs1 es1=>?_;subst es1;refine aV (E:=aY) (v:=vu) (xs:=k.decl.rules) (by simp) λau cu eu=>?_;subst eu;refine aV (E:=aa) (v:=gc) (xs:=k.grid.cells) (by simp) λag cg eg=>?_;subst eg;refine aV (E:=aj aa) (v:=vn) (xs:=k.bE) (by simp) λan cn en=>?_;subst en;refine go ?_;intro b2 b3 b4;refine go ?_;refine ax (afl (k:=k) (p:=p) (vh:=vh) (vs:=.slice lF k.decl.symbols.length cs1) (vr:=vr) (vc:=vc) (vu:=.slice au k.decl.rules.length cu) (gh:=gh) (gc:=.slice ag k.grid.cells.length cg) (vn:=.slice an k.bE.length cn) (vl:=vl) (vp:=vp) hS hP) (next:=λe he=>?_);refine go ?_;refine az rfl (λh1=>?_) (λh1=>?_)
 ·have U5:fV k->kQ k p->False:=λa b=>h1 (he.2.2 a b);refine go ?_;exact Bh ⟨false,e,.slice none 0 0,.slice none 0 0⟩ (hv:=rfl) (hp:=⟨he.1,he.2.1,λa b=>(U5 a b).elim,λa b=>(U5 a b).elim,⟨λh=>(by cases h),λh=>absurd h h1⟩⟩)
 have hz:e=0:=iK.1 h1;subst hz;have hK:fV k:=Classical.byContradiction λh=>by have:=he.1 h;omega
 have hQ:kQ k p:=Classical.byContradiction λh=>by have:=he.2.1 hK h;omega
 have hsl:=hK.typ.lim.s1;have hrl:=hK.typ.lim.u;have hgl:=hK.bV.len;rw[<- hK.grid]at hgl;refine go ?_;refine gz aa ?_;refine bi (λy:Nat×Value=>k.decl.symbols.length - y.1) (λy=>[(38,.int .i64 (y.1:Int))]) (λy=>[pt b4 (.cells (sZ (tq k p) y.2 (.slice an k.bE.length cn) (.slice none 0 0))),ap aa y.2 ((k.decl.symbols.take y.1).map (·.value))]) (λ_=>[]) (λy=>y.1<=k.decl.symbols.length) (0,.slice none 0 0) (cB _) (hk:=by repeat (first|exact aH.nil|(apply aH.cons;(focus (repeat (first|exact ay.here|apply ay.there)))))) (body:=?_);rintro⟨j,vv⟩ hj;dsimp only at hj⊢;have hjl:((k.decl.symbols.take j).map (·.value)).length=j:=by rw[bU,iy];omega
 refine go ?_;refine az rfl (λh2=>?_) (λh2=>?_)
 ·refine go ?_;refine aZ fA (xs:=k.decl.symbols) (next:=λ_ _ s (_:Unit) hs=>?_);have htk:(k.decl.symbols.take (j+1)).map (·.value)=(k.decl.symbols.take j).map (·.value)++[s.value]:=by rw[bX hs,dY,oh]
  refine go ?_;intro b7;refine go ?_;intro b46;refine go ?_;refine eY (xs:=(k.decl.symbols.take j).map (·.value)) aa s.value () (by omega) (next:=λad=>?_);rw[<- htk];refine go ?_;exact aQ (j+1,.slice ad (((k.decl.symbols.take j).map (·.value)).length+1) (((k.decl.symbols.take j).map (·.value)).length+1)) (by show k.decl.symbols.length - (j+1)<k.decl.symbols.length - j;omega) (by show j+1<=_;omega)
 have jr:j=k.decl.symbols.length:=by omega
 subst jr;rw[bK,show k.decl.symbols.map (·.value)=EI k from rfl];refine bC (gy (E:=aa) (v:=vv) (xs:=EI k)) (h:=?_);refine go ?_;refine ax agX (next:=λy _=>?_);refine go ?_;intro b8;refine bC (eH (b:=b8)) (h:=?_);have hlf:∀l∈k.lists,l.length<=2048:=by rw[hK.lists];exact acj hK.bV (λr hr=>(hK.typ.zQ r hr).1.2)
 have hpl:p.length<4611686018427387904:=by have:=hQ.len;omega
 have rO:IV p:=λi j a b hij ha hb=>Ic hQ (j - (i+1)) i a b ha (by rw[show i+1+(j - (i+1))=j by omega];exact hb);refine go ?_;refine gz mX ?_;refine aay ?_;refine aaz (λy=>y.2.2.map K8) (λy:Nat×Value×List Nat=>k.decl.rules.length - y.1) (λy=>[(55,.int .i64 (y.1:Int))]) (λy=>[Bi y.2.2,pt b2 (.cells (l6 k vh (.slice lF k.decl.symbols.length cs1) vr vc (.slice au k.decl.rules.length cu) gh (.slice ag k.grid.cells.length cg) (.slice an k.bE.length cn) vl)),pt b3 (.cells [vp]),pt b4 (.cells (sZ (tq k p) vv (.slice an k.bE.length cn) y.2.1)),ap mX y.2.1 (kR k p y.1)]) (λ_=>[]) (λy=>y.1<=k.decl.rules.length) (0,.slice none 0 0,[]) (cB _) (hk:=by repeat (first|exact aH.nil|(apply aH.cons;(focus (repeat (first|exact ay.here|apply ay.there)))))) (body:=?_);rintro⟨j,Ey,rs⟩ hj;dsimp only at hj⊢;have hcl:=SH (p:=p) hlf j hj;refine go ?_;refine az rfl (λh3=>?_) (λh3=>?_)
 ·refine go ?_;refine aZ aY (xs:=k.decl.rules) (next:=λ_ _ r (w:Value×Value) hr=>?_);have hrm:=bI hr;have hf:=hK.rf hrm;have hkd:=hf.kd;obtain⟨ls,hls,_⟩:=hf.list hK;obtain⟨fm,fn,cap,hM⟩:=ag8 y hf.kd;have IZ:=hM.pG;have hf0:0<=fD r:=by
   have:=hf.f0;unfold fD;repeat' split
   all_goals omega
  refine go ?_;intro b9 b10;refine go ?_;refine(KW (b:=b8) (o:=0) (j:=r.kind.toNat*3) (m:=3) (cs:=Ns y) (c:=[.int .i64 fm,.int .i64 (jo r:Int),.func fn #[] ⟨cap⟩]) rfl rfl rfl (by repeat (first|exact dL .. |apply dI)) hM.at_).h ?_;refine go ?_;intro b11;refine go ?_;refine az rfl (λh4=>?_) (λh4=>?_)
  ·rw[if_pos h4]at IZ;have hfi:(((fD r).toNat:Nat):Int)=r.family:=by rw[IZ];exact Int.toNat_of_nonneg hf0
   have hL:=UU (k:=k) (r:=r) (fi:=(fD r).toNat) (vh:=vh) (vs:=.slice lF k.decl.symbols.length cs1) (vr:=vr) (vc:=vc) (vu:=.slice au k.decl.rules.length cu) (gh:=gh) (gc:=.slice ag k.grid.cells.length cg) (vn:=.slice an k.bE.length cn) (vl:=vl) (vp:=vp) (v1:=w.1) (v2:=w.2);rw[hfi]at hL;refine go ?_;refine bC (eH (b:=b9)) (h:=?_);refine bC (eH (b:=b10)) (h:=?_);refine bC (eH (b:=b11)) (h:=?_);refine ax hL (next:=λyl _=>?_);have hL1:=UX (bk:=yl.1) (bf:=yl.2.1) (br:=yl.2.2.1) (bp:=yl.2.2.2) (k:=k) (p:=p) (r:=r) (fi:=(fD r).toNat) (ls:=ls) (vh:=vh) (vs:=.slice lF k.decl.symbols.length cs1) (vr:=vr) (vc:=vc) (vu:=.slice au k.decl.rules.length cu) (gh:=gh) (gc:=.slice ag k.grid.cells.length cg) (vn:=.slice an k.bE.length cn) (vl:=vl) (vp:=vp) (v1:=w.1) (v2:=w.2) hS hpl rO hls;rw[hfi]at hL1;refine go ?_;refine um (λv:Value=>[pt b4 (.cells (sZ (tq k p) vv (.slice an k.bE.length cn) v)),ap mX v (kR k p j)]) Ey (h:=?_);refine RQ (Z:=Nat) (λ(s:List kM) (x:LA)=>(nY r j s x,Out.normal)) (λs=>[Bg λv:Value=>[pt b4 (.cells (sZ (tq k p) vv (.slice an k.bE.length cn) v)),ap mX v s]]) (λvs s=>s=kR k p j++((vs.map nI).filter λx=>decide (jo r<=x.2.1.length)).map (iR r j)) (kR k p j) _ (λx z=>[pt z (.cells [x.2.1.2,x.2.2.2])]) (by simp) (λvs s x rest hs _ _=>by
    have:=zY r j (vs++[x]) (kR k p j);have h2:=zY r j vs (kR k p j);rw[hs];show nY r j _ x=_;unfold nY;rw[dY,Af,dY,oh];by_cases h:jo r<=x.2.1.1.length
    ·rw[if_pos h,List.filter_cons_of_pos (by exact dZ h)];simp
    ·rw[if_neg h,List.filter_cons_of_neg (by rw[wO];exact h)];simp) hL1 (by intro s x lo o B w0;dsimp only[Ef,zC,List.cons_append,List.nil_append,List.zip_cons_cons,List.zip_nil_left,List.reverse_cons,List.reverse_nil];refine go ?_;intro b14;refine go ?_;exact zw b14 rfl) ?_ ?_ (λ_ _=>trivial)
   ·rintro vs s ⟨at_,⟨cells,wc⟩,⟨vals,wv⟩⟩ rest z lo L B w0 hs hX;have hx:(at_,cells,vals)∈jD p r ls:=by rw[<- hX];exact eG.2 ⟨(at_,(cells,wc),(vals,wv)),by simp,rfl⟩
    have hpre:=U4 hf hQ hsl hx;have hml:s.length<=65536:=by
     have h1:=Ah (λx:Nat×List Int×List Int=>decide (jo r<=x.2.1.length)) (vs.map nI);have h2:=congrArg List.length hX;have h3:=hlf _ (bI hls);have h4:=Ih (p:=p) (r:=r) (ls:=ls);rw[bU,gD]at h2;rw[bU]at h1;rw[hs,gD,bU];omega
    have hcc:(iR r j (at_,cells,vals)).cells=cells:=by unfold iR jG;dsimp only;(repeat' split)<;>rfl
    have hrr:(iR r j (at_,cells,vals)).runs=(jG r cells vals).runs:=rfl;dsimp only[zC,List.cons_append,List.nil_append,List.reverse_cons,List.reverse_nil];refine aV (E:=aa) (v:=wc) (xs:=cells) (by simp) λak ck ek=>?_;subst ek;have hmk:=hM.ok cells vals hpre (.slice ak cells.length ck) wv w.1 w.2;refine xK (h:=λv=>?_);refine go ?_;refine az rfl (λh5=>?_) (λh5=>?_)
    ·have hadd:nY r j s (at_,(cells,.slice ak cells.length ck),(vals,wv))=s:=by unfold nY;rw[if_neg (by show¬jo r<=cells.length;omega)]
     rw[hadd];refine go ?_;refine um (λv:Value=>[pt b4 (.cells (sZ (tq k p) vv (.slice an k.bE.length cn) v)),ap mX v s]) v (h:=?_);exact uo () rfl trivial trivial
    have hadd:nY r j s (at_,(cells,.slice ak cells.length ck),(vals,wv))=s++[iR r j (at_,cells,vals)]:=by unfold nY;rw[if_pos (by show jo r<=cells.length;omega)];rfl
    rw[hadd];refine go ?_;refine ax hmk (next:=λvq _=>?_);refine go ?_;intro b15;refine go ?_;intro MQ;refine fu (ah aa (.slice ak cells.length ck) (iR r j (at_,cells,vals)).cells) (λw hw=>by rw[hcc];exact hw (ah aa (.slice ak cells.length ck) cells) (by simp)) ?_;refine fu (ah aa vq (iR r j (at_,cells,vals)).runs) (λw hw=>hw (ah aa vq (jG r cells vals).runs) (by simp)) ?_;refine eY (xs:=s) mX (iR r j (at_,cells,vals)) (.slice ak cells.length ck,vq) (by omega) (next:=λad=>?_);refine go ?_;refine um (λv:Value=>[pt b4 (.cells (sZ (tq k p) vv (.slice an k.bE.length cn) v)),ap mX v (s++[iR r j (at_,cells,vals)])]) _ (h:=?_);exact uo () rfl trivial trivial
   ·intro rr xs hX;rw[zY,hX];have hnew:kR k p j++((jD p r ls).filter λx=>decide (jo r<=x.2.1.length)).map (iR r j)=kR k p (j+1):=by
     rw[Ig hr];unfold oH xW;rw[uu hls]
    rw[hnew];dsimp only[List.cons_append,List.nil_append];refine xK (h:=λv=>?_);refine go ?_;refine QI (rs:=rs) (r:=rr) (h:=?_);exact QK (j+1,v,rr::rs) (by show k.decl.rules.length - (j+1)<k.decl.rules.length - j;omega) (by show j+1<=_;omega)
  ·rw[if_neg h4]at IZ;have hfi:(((fD r).toNat:Nat):Int)=fm:=by rw[IZ];exact Int.toNat_of_nonneg hf0
   have hL:=UU (k:=k) (r:=r) (fi:=(fD r).toNat) (vh:=vh) (vs:=.slice lF k.decl.symbols.length cs1) (vr:=vr) (vc:=vc) (vu:=.slice au k.decl.rules.length cu) (gh:=gh) (gc:=.slice ag k.grid.cells.length cg) (vn:=.slice an k.bE.length cn) (vl:=vl) (vp:=vp) (v1:=w.1) (v2:=w.2);rw[hfi]at hL;refine go ?_;refine bC (eH (b:=b9)) (h:=?_);refine bC (eH (b:=b10)) (h:=?_);refine bC (eH (b:=b11)) (h:=?_);refine ax hL (next:=λyl _=>?_);have hL1:=UX (bk:=yl.1) (bf:=yl.2.1) (br:=yl.2.2.1) (bp:=yl.2.2.2) (k:=k) (p:=p) (r:=r) (fi:=(fD r).toNat) (ls:=ls) (vh:=vh) (vs:=.slice lF k.decl.symbols.length cs1) (vr:=vr) (vc:=vc) (vu:=.slice au k.decl.rules.length cu) (gh:=gh) (gc:=.slice ag k.grid.cells.length cg) (vn:=.slice an k.bE.length cn) (vl:=vl) (vp:=vp) (v1:=w.1) (v2:=w.2) hS hpl rO hls;rw[hfi]at hL1;refine go ?_;refine um (λv:Value=>[pt b4 (.cells (sZ (tq k p) vv (.slice an k.bE.length cn) v)),ap mX v (kR k p j)]) Ey (h:=?_);refine RQ (Z:=Nat) (λ(s:List kM) (x:LA)=>(nY r j s x,Out.normal)) (λs=>[Bg λv:Value=>[pt b4 (.cells (sZ (tq k p) vv (.slice an k.bE.length cn) v)),ap mX v s]]) (λvs s=>s=kR k p j++((vs.map nI).filter λx=>decide (jo r<=x.2.1.length)).map (iR r j)) (kR k p j) _ (λx z=>[pt z (.cells [x.2.1.2,x.2.2.2])]) (by simp) (λvs s x rest hs _ _=>by
    have:=zY r j (vs++[x]) (kR k p j);have h2:=zY r j vs (kR k p j);rw[hs];show nY r j _ x=_;unfold nY;rw[dY,Af,dY,oh];by_cases h:jo r<=x.2.1.1.length
    ·rw[if_pos h,List.filter_cons_of_pos (by exact dZ h)];simp
    ·rw[if_neg h,List.filter_cons_of_neg (by rw[wO];exact h)];simp) hL1 (by intro s x lo o B w0;dsimp only[Ef,zC,List.cons_append,List.nil_append,List.zip_cons_cons,List.zip_nil_left,List.reverse_cons,List.reverse_nil];refine go ?_;intro b14;refine go ?_;exact zw b14 rfl) ?_ ?_ (λ_ _=>trivial)
   ·rintro vs s ⟨at_,⟨cells,wc⟩,⟨vals,wv⟩⟩ rest z lo L B w0 hs hX;have hx:(at_,cells,vals)∈jD p r ls:=by rw[<- hX];exact eG.2 ⟨(at_,(cells,wc),(vals,wv)),by simp,rfl⟩
    have hpre:=U4 hf hQ hsl hx;have hml:s.length<=65536:=by
     have h1:=Ah (λx:Nat×List Int×List Int=>decide (jo r<=x.2.1.length)) (vs.map nI);have h2:=congrArg List.length hX;have h3:=hlf _ (bI hls);have h4:=Ih (p:=p) (r:=r) (ls:=ls);rw[bU,gD]at h2;rw[bU]at h1;rw[hs,gD,bU];omega
    have hcc:(iR r j (at_,cells,vals)).cells=cells:=by unfold iR jG;dsimp only;(repeat' split)<;>rfl
    have hrr:(iR r j (at_,cells,vals)).runs=(jG r cells vals).runs:=rfl;dsimp only[zC,List.cons_append,List.nil_append,List.reverse_cons,List.reverse_nil];refine aV (E:=aa) (v:=wc) (xs:=cells) (by simp) λak ck ek=>?_;subst ek;have hmk:=hM.ok cells vals hpre (.slice ak cells.length ck) wv w.1 w.2;refine xK (h:=λv=>?_);refine go ?_;refine az rfl (λh5=>?_) (λh5=>?_)
    ·have hadd:nY r j s (at_,(cells,.slice ak cells.length ck),(vals,wv))=s:=by unfold nY;rw[if_neg (by show¬jo r<=cells.length;omega)]
     rw[hadd];refine go ?_;refine um (λv:Value=>[pt b4 (.cells (sZ (tq k p) vv (.slice an k.bE.length cn) v)),ap mX v s]) v (h:=?_);exact uo () rfl trivial trivial
    have hadd:nY r j s (at_,(cells,.slice ak cells.length ck),(vals,wv))=s++[iR r j (at_,cells,vals)]:=by unfold nY;rw[if_pos (by show jo r<=cells.length;omega)];rfl
    rw[hadd];refine go ?_;refine ax hmk (next:=λvq _=>?_);refine go ?_;intro b15;refine go ?_;intro MQ;refine fu (ah aa (.slice ak cells.length ck) (iR r j (at_,cells,vals)).cells) (λw hw=>by rw[hcc];exact hw (ah aa (.slice ak cells.length ck) cells) (by simp)) ?_;refine fu (ah aa vq (iR r j (at_,cells,vals)).runs) (λw hw=>hw (ah aa vq (jG r cells vals).runs) (by simp)) ?_;refine eY (xs:=s) mX (iR r j (at_,cells,vals)) (.slice ak cells.length ck,vq) (by omega) (next:=λad=>?_);refine go ?_;refine um (λv:Value=>[pt b4 (.cells (sZ (tq k p) vv (.slice an k.bE.length cn) v)),ap mX v (s++[iR r j (at_,cells,vals)])]) _ (h:=?_);exact uo () rfl trivial trivial
   ·intro rr xs hX;rw[zY,hX];have hnew:kR k p j++((jD p r ls).filter λx=>decide (jo r<=x.2.1.length)).map (iR r j)=kR k p (j+1):=by
     rw[Ig hr];unfold oH xW;rw[uu hls]
    rw[hnew];dsimp only[List.cons_append,List.nil_append];refine xK (h:=λv=>?_);refine go ?_;refine QI (rs:=rs) (r:=rr) (h:=?_);exact QK (j+1,v,rr::rs) (by show k.decl.rules.length - (j+1)<k.decl.rules.length - j;omega) (by show j+1<=_;omega)
 have jr:j=k.decl.rules.length:=by omega
 subst jr;rw[SG]at hcl⊢;refine go ?_;refine az rfl (λh4=>?_) (λh4=>?_)
 ·have hno:¬(jH k p).length<=4096:=by omega
  refine go ?_;exact QJ (rs:=rs) ⟨false,2,.slice none 0 0,.slice none 0 0⟩ (hv:=rfl) (hp:=⟨λh=>absurd hK h,λ_ h=>absurd hQ h,λ_ _ _=>rfl,λ_ _ h=>absurd h hno,⟨λh=>(by cases h),λh=>(by cases h)⟩⟩)
 have ahb:¬4096<(jH k p).length:=by omega
 refine bC (gy (E:=mX) (v:=Ey) (xs:=jH k p)) (h:=?_);refine go ?_;exact QJ (rs:=rs) ⟨true,0,vv,Ey⟩ (hv:=rfl) (hp:=⟨λh=>absurd hK h,λ_ h=>absurd hQ h,λ_ _ h=>absurd h ahb,λ_ _ _=>rfl,⟨λ_=>rfl,λ_=>rfl⟩⟩)
