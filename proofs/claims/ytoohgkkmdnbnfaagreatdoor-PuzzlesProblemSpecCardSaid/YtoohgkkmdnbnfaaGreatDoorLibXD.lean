/-
  Puzzles: the constraints that rules make.
-/
import Derived.Test.YtoohgkkmdnbnfaaGreatDoorLibWD
set_option linter.all false
set_option maxRecDepth 10000
set_option maxHeartbeats 4000000
namespace Go.Proofs.YtoohgkkmdnbnfaaGreatDoor
open Go.Ideal Kd Canon Gph
theorem ag3{r:aQ}{vals:List Int}{vc vv v1 v2:Value}(h:r.bW≠jS->0<vals.length):cK Tryz.prog 169 [.agg ⟨[vc,vv]⟩,.agg ⟨iQ r v1 v2⟩] [ah aa vv vals] (.int .i64 (tq r vals)):=by
 refine aI _ (aO 169) λB w0=>?_;refine go ?_;intro b2 b3;refine go ?_;refine eF (p:=r.bW=jS) (by show Value.bool _=_;rw[dW]) (λh1=>?_) (λh1=>?_)
 ·have h0:=h h1;refine go ?_;intro _ _ y hy;refine go ?_;refine ae () (hv:=?_) (hp:=trivial);unfold tq;rw[if_neg h1,I6 hy];rfl
 ·refine go ?_;refine ae () (hv:=?_) (hp:=trivial);unfold tq;rw[if_pos h1];rfl
theorem Ve{r:aQ}{vals:List Int}{vc vv v1 v2:Value}{most:Int}(h:r.bW≠jS->0<vals.length):cK Tryz.prog 120 [.agg ⟨[vc,vv]⟩,.agg ⟨iQ r v1 v2⟩,.int .i64 most] [ah aa vv vals] (.tuple ⟨[.int .i64 (kw r vals most).1,.int .i64 (kw r vals most).2]⟩):=by
 refine aI _ (aO 120) λB w0=>?_;refine go ?_;intro b3 b4;refine go ?_;refine ax (ag3 (r:=r) (vals:=vals) (vc:=vc) (vv:=vv) (v1:=v1) (v2:=v2) h) (next:=λ_ _=>?_);refine go ?_;refine ay rfl (λh1=>?_) (λh1=>?_)
 ·refine go ?_;refine ae () (hv:=?_) (hp:=trivial);unfold kw;rw[if_pos h1];rfl
 refine go ?_;refine ay rfl (λh2=>?_) (λh2=>?_)
 ·refine go ?_;refine(fJ rfl rfl (Q0 rfl rfl)).h ?_;refine go ?_;refine ae () (hv:=?_) (hp:=trivial);unfold kw;rw[if_neg h1,if_pos h2];rfl
 refine go ?_;refine ae () (hv:=?_) (hp:=trivial);unfold kw;rw[if_neg h1,if_neg h2];rfl
abbrev Ck(k s o lo hi:Int)(vr:Value):Value:=.agg ⟨[.int .i64 k,.slice none 0 0,.int .i64 s,.int .i64 o,.int .i64 lo,.int .i64 hi,vr,.int .i64 0,.int .i64 0]⟩
theorem ag4{b:Nat}{k:Int}{r:aQ}{vc vv v1 v2:Value}:bn Tryz.prog (.func 119) [.agg ⟨iQ r v1 v2⟩,.agg ⟨[vc,vv]⟩] [ptr' b] [] [eH b 0 [.int .i64 k]] (λ_:Unit=>Ck k r.set r.other r.n 0 (.slice none 0 0)) (λ_=>[]) (λ_=>[]) (λ_=>True):=by
 refine aI _ (aO 119) λB w0=>?_;refine go ?_;intro b3 b4 b5;refine go ?_;exact ae () (hv:=rfl) (hp:=trivial)
theorem Ag{k:Int}:bn Tryz.prog (.func 74) [.int .i64 k] [] [] [] (λb:Nat=>.func (.func 119) #[] #[ptr' b]) (λ_=>[]) (λb=>[eH b 0 [.int .i64 k]]) (λ_=>True):=by
 refine aI _ (aO 74) λB w0=>?_;refine go ?_;intro b1;refine go ?_;refine bA (eD (b:=b1)) (h:=?_);exact ae b1 (hv:=rfl) (hp:=trivial)
theorem ag5{r:aQ}{cells vals:List Int}{vc vv v1 v2:Value}(h:r.bW≠jS->0<vals.length):cK Tryz.prog 75 [.agg ⟨iQ r v1 v2⟩,.agg ⟨[vc,vv]⟩] [ah aa vc cells,ah aa vv vals] (Ck 2 r.set 0 (kw r vals cells.length).1 (kw r vals cells.length).2 (.slice none 0 0)):=by
 refine aI _ (aO 75) λB w0=>?_;refine go ?_;intro b2 b3 b4;refine go ?_;refine ax (Ve (r:=r) (vals:=vals) (vc:=vc) (vv:=vv) (v1:=v1) (v2:=v2) (most:=(cells.length:Int)) h) (next:=λ_ _=>?_);refine go ?_;exact ae () (hv:=rfl) (hp:=trivial)
theorem ag6{r:aQ}{vals:List Int}{vc vv v1 v2:Value}(h:r.bW≠jS->0<vals.length):cK Tryz.prog 76 [.agg ⟨iQ r v1 v2⟩,.agg ⟨[vc,vv]⟩] [ah aa vv vals] (Ck 3 0 0 (kw r vals 65536).1 (kw r vals 65536).2 (.slice none 0 0)):=by
 refine aI _ (aO 76) λB w0=>?_;refine go ?_;intro b2 b3 b4;refine go ?_;refine ax (Ve (r:=r) (vals:=vals) (vc:=vc) (vv:=vv) (v1:=v1) (v2:=v2) (most:=65536) h) (next:=λ_ _=>?_);refine go ?_;exact ae () (hv:=rfl) (hp:=trivial)
theorem ag7{r:aQ}{vals:List Int}{vc vv v1 v2:Value}:cK Tryz.prog 77 [.agg ⟨iQ r v1 v2⟩,.agg ⟨[vc,vv]⟩] [ah aa vv vals] (Ck 5 r.set 0 0 0 vv):=by
 refine aI _ (aO 77) λB w0=>?_;refine aS (E:=aa) (v:=vv) (xs:=vals) (by simp) λav cv wJ=>?_;subst wJ;refine go ?_;intro b2 b3 b4;refine go ?_;exact ae () (hv:=rfl) (hp:=trivial)
theorem ag8{r:aQ}{vals:List Int}{vc vv v1 v2:Value}(h0:0<vals.length)(hv:∀x∈vals,0<=x/\x<16):cK Tryz.prog 78 [.agg ⟨iQ r v1 v2⟩,.agg ⟨[vc,vv]⟩] [ah aa vv vals] (Ck 2 ((1<<<(vals.getD 0 0).toNat:Nat):Int) 0 1 1 (.slice none 0 0)):=by
 refine aI _ (aO 78) λB w0=>?_;refine go ?_;intro b2 b3 b4;refine go ?_;intro _ _ y hy;have hyv:=hv y (bH hy);obtain⟨n,rfl⟩:=qf hyv.1;have hlt:(1:Nat)<<<n<9223372036854775808:=by
  rw[Nat.one_shiftLeft];exact kR (Fv (by omega) (show n<16 by omega)) (by decide)
 refine Q4 (Hl (a:=1) (b:=n) rfl rfl (by omega) hlt) ?_;refine go ?_;refine ae () (hv:=?_) (hp:=trivial);rw[I6 hy,Am];rfl
structure ES where
 b1:Nat
 b4:Nat
 b6:Nat
 b7:Nat
 b8:Nat
 b9:Nat
 b10:Nat
abbrev Ah(b:Nat):Value:=.func (.func 119) #[] #[ptr' b]
abbrev NN(y:ES):List Value:=[.int .i64 0,.int .i64 0,.nilFunc,.int .i64 (-1),.int .i64 2,Ah y.b1,.int .i64 (-1),.int .i64 0,.func (.func 75) #[] #[],.int .i64 (-1),.int .i64 0,.func (.func 76) #[] #[],
 .int .i64 (-1),.int .i64 2,Ah y.b4,.int .i64 (-1),.int .i64 0,.func (.func 77) #[] #[],.int .i64 6,.int .i64 0,Ah y.b6,.int .i64 6,.int .i64 0,Ah y.b7,.int .i64 6,.int .i64 0,Ah y.b8,.int .i64 7,.int .i64 0,Ah y.b9,.int .i64 7,.int .i64 0,Ah y.b10,.int .i64 0,.int .i64 0,.func (.func 78) #[] #[]]
abbrev Vf(y:ES):List aF:=[eH y.b1 0 [.int .i64 1],eH y.b4 0 [.int .i64 4],eH y.b6 0 [.int .i64 1],eH y.b7 0 [.int .i64 6],eH y.b8 0 [.int .i64 7],eH y.b9 0 [.int .i64 8],eH y.b10 0 [.int .i64 9]]
theorem ag9:bn Tryz.prog (.func 47) [] [] [] [] (λy:ES=>.agg ⟨NN y⟩) (λ_=>[]) Vf (λ_=>True):=by
 refine aI _ (aO 47) λB w0=>?_;refine go ?_;intro b0;refine ax (Ag (k:=1)) (next:=λb1 _=>?_);refine go ?_;refine ax (Ag (k:=4)) (next:=λb4 _=>?_);refine go ?_;refine ax (Ag (k:=1)) (next:=λb6 _=>?_);refine go ?_;refine ax (Ag (k:=6)) (next:=λb7 _=>?_);refine go ?_;refine ax (Ag (k:=7)) (next:=λb8 _=>?_);refine go ?_;refine ax (Ag (k:=8)) (next:=λb9 _=>?_);refine go ?_;refine ax (Ag (k:=9)) (next:=λb10 _=>?_);dsimp only[List.cons_append,List.nil_append];refine go ?_;exact ae ⟨b1,b4,b6,b7,b8,b9,b10⟩ (hv:=rfl) (hp:=trivial)
structure NP(p:List Clue)(t:Clue)(y:Nat×Bool):Prop where
 le:y.1<=p.length
 lo:∀(j:Nat) g,j<y.1->p[j]? =some g->gu g t<0
 hi:∀(j:Nat) g,y.1<=j->p[j]? =some g->¬gu g t<0
 is:y.2=true↔∃g,p[y.1]? =some g/\gu g t=0
def Jh(p:List Clue):Prop:=∀(i j:Nat) a b,i<j->p[i]? =some a->p[j]? =some b->gu a b<0
theorem aha{v vt:Value}{p:List Clue}{t:Clue}(hl:p.length<4611686018427387904)(hs:Jh p):
 bn Tryz.prog (.func 80) [v,zN t vt,.func (.func 38) #[] #[]] [] [] [ah iV v p] (λy:Nat×Bool=>.tuple ⟨[.int .i64 (y.1:Int),.bool y.2]⟩) (λ_=>[]) (λ_=>[]) (NP p t):=by
 refine aI _ (aO 80) λB w0=>?_;refine go ?_;intro b4;refine go ?_;refine aZ (λy:Nat×Nat=>y.2 - y.1) (λy=>[(9,.int .i64 (y.1:Int)),(10,.int .i64 (y.2:Int))]) (λ_=>[]) (λ_=>[]) (λy=>y.1<=y.2/\y.2<=p.length/\(∀(j:Nat) g,j<y.1->p[j]? =some g->gu g t<0)/\(∀(j:Nat) g,y.2<=j->p[j]? =some g->¬gu g t<0)) (0,p.length) ⟨bY _,bQ _,λj x hj=>by omega,λj x hj hx=>by have:=(bP.1 hx).1;omega⟩ (body:=?_);rintro⟨a,b⟩ ⟨hab,hb,hlo,hhi⟩;dsimp only at hab hb hlo hhi⊢;refine go ?_;refine ay rfl (λh1=>?_) (λh1=>?_)
 ·have Du:a<=(a+b)>>>1/\(a+b)>>>1<b:=by
   rw[VG];omega
  generalize hm:(a+b)>>>1=m at Du;refine go ?_;rw[show(a:Int)+(b:Int)=((a+b:Nat):Int)by omega];refine(fJ rfl rfl (Ed (k:=.u64) (m:=((a+b:Nat):Int)) (by kernel_rfl:Tryz.prog.underlying 3=some (.int .i64)) (by kernel_rfl) rfl (RY (by omega)))).h ?_;refine(fJ rfl rfl (RZ (a:=a+b) (b:=1) rfl rfl (by omega))).h ?_;rw[hm];refine(fJ rfl rfl (Ed (k:=.i64) (m:=(m:Int)) (by kernel_rfl:Tryz.prog.underlying 63=some (.int .u64)) (by kernel_rfl) rfl (wrapN (by omega)))).h ?_;refine go ?_;refine bi iV (xs:=p) (next:=λ_ _ x (vx:Value) hx=>?_);refine go ?_;refine ax (Ns (a:=x) (b:=t) (va:=vx) (vb:=vt)) (next:=λ_ _=>?_);refine go ?_;refine ay rfl (λh2=>?_) (λh2=>?_)
  ·refine go ?_;refine aP (m+1,b) (by show b - (m+1)<b - a;omega) ⟨by show m+1<=b;omega,hb,λj u hj hu=>?_,hhi⟩;by_cases e:j=m
   ·subst e;rw[hx]at hu;cases hu;exact h2
   ·exact Ej (hs j m u x (by have:j<m+1:=hj;omega) hu hx) h2
  ·refine go ?_;refine aP (a,m) (by show m - a<b - a;omega) ⟨by show a<=m;omega,by show m<=_;omega,hlo,λj u hj hu=>?_⟩;by_cases e:j=m
   ·subst e;rw[hx]at hu;cases hu;exact h2
   ·exact λh3=>h2 (Ej (hs m j x u (by have:m<=j:=hj;omega) hx hu) h3)
 have hba:b=a:=by omega
 subst hba;refine go ?_;first|with_reducible refine aN (λh2=>?_) (λh2=>?_)|with_reducible refine aM (λh2=>?_) (λh2=>?_)|with_reducible refine aK (λh2=>?_) (λh2=>?_)
 ·have hn:p[b]? =none:=iH (by omega);refine go ?_;exact ae (b,false) (hv:=rfl) (hp:=⟨by show b<=_;omega,hlo,hhi,by show false=true↔∃g,p[b]? =some g/\_;rw[hn];simp⟩)
 refine go ?_;refine bi iV (xs:=p) (next:=λ_ _ x (vx:Value) hx=>?_);refine go ?_;refine ax (Ns (a:=x) (b:=t) (va:=vx) (vb:=vt)) (next:=λ_ _=>?_);refine go ?_;refine ae (b,decide (gu x t=0)) (hv:=rfl) (hp:=⟨by show b<=_;omega,hlo,hhi,?_⟩);show decide (gu x t=0)=true↔∃g,p[b]? =some g/\gu g t=0;rw[hx,qg];exact⟨λh=>⟨x,rfl,h⟩,λ⟨g,h1,h2⟩=>by cases h1;exact h2⟩
theorem NP.find{p:List Clue}{c:Int}{n:Nat}{y:Nat×Bool}(hs:Jh p)(h:NP p ⟨c,(n:Int),[]⟩ y):(y.2=true->∃g,p[y.1]? =some g/\oO p c (n:Int)=some g.values)/\(y.2=false->oO p c (n:Int)=none):=by
 have hz:∀g:Clue,gu g ⟨c,(n:Int),[]⟩=0↔g.aH=c/\g.at_=(n:Int):=λg=>by
  unfold gu;simp only[rT];have h1:=uw.zero g.aH c;have h2:=uw.zero g.at_ (n:Int);by_cases e:fU g.aH c=0
  ·rw[if_neg (by simpa using e)];by_cases e2:fU g.at_ (n:Int)=0
   ·rw[if_neg (by simpa using e2)];exact⟨λ_=>⟨h1.1 e,h2.1 e2⟩,λ_=>rfl⟩
   ·rw[if_pos e2];exact⟨λh=>absurd h e2,λh=>absurd (h2.2 h.2) e2⟩
  ·rw[if_pos e];exact⟨λh=>absurd h e,λh=>absurd (h1.2 h.1) e⟩
 have ahb:∀(i j:Nat) a b,p[i]? =some a->p[j]? =some b->gu a ⟨c,(n:Int),[]⟩=0->gu b ⟨c,(n:Int),[]⟩=0->i=j:=by
  intro i j a b ha hb h1 h2;have e1:=(hz a).1 h1;have e2:=(hz b).1 h2;rcases Nat.lt_trichotomy i j with hl|hl|hl
  ·have:=uH.1 (hs i j a b hl ha hb);omega
  ·exact hl
  ·have:=uH.1 (hs j i b a hl hb ha);omega
 constructor
 ·intro hy;obtain⟨g,hg,h0⟩:=h.is.1 hy;refine⟨g,hg,?_⟩;unfold oO;cases hf:p.find? (λg=>decide (g.aH=c/\g.at_=(n:Int)))with
  |none=>
   have:=Fp.1 hf g (bH hg);exact absurd (dS ((hz g).1 h0)) this
  |some g2=>
   have h2':=List.find?_some hf;have h2:g2.aH=c/\g2.at_=(n:Int):=gX h2';obtain⟨j,hj⟩:=mP (Oh hf);have:=ahb _ _ _ _ hg hj h0 ((hz g2).2 h2);subst this;rw[hg]at hj;cases hj;rfl
 ·intro hy;unfold oO;rw[show p.find? (λg=>decide (g.aH=c/\g.at_=(n:Int)))=none from Fp.2 λg hg hd=>by
   have hd:=gX hd;have h0:=(hz g).2 hd;obtain⟨j,hj⟩:=mP hg;by_cases hlt:j<y.1
   ·have:=h.lo j g hlt hj;omega
   ·by_cases e:j=y.1
    ·subst e;have:=h.is.2 ⟨g,hj,h0⟩;rw[hy]at this;cases this
    ·have hyl:y.1<p.length:=by have:=(bP.1 hj).1;omega
     have hq:p[y.1]? =some p[y.1]:=cO hyl;have h1:=hs y.1 j _ g (by omega) hq hj;have h2:=h.hi y.1 _ (bQ _) hq;apply h2;have e1:=uH.1 h1;rw[uH];show p[y.1].aH<c\/p[y.1].aH=c/\p[y.1].at_<(n:Int);omega]
  rfl
theorem Vg{k:bS}{r:aQ}{fi:Nat}{vh vs vr vc vu gh gc vn vl vp v1 v2:Value}:
 bn Tryz.prog (.func 48) [.agg ⟨kD k vh vs vr vc vu gh gc vn vl⟩,.agg ⟨[vp]⟩,.agg ⟨iQ r v1 v2⟩,.int .i64 (fi:Int)] [] [] [] (λy:Nat×Nat×Nat×Nat=>.func (.func 79) #[] #[ptr' y.1,ptr' y.2.1,ptr' y.2.2.1,ptr' y.2.2.2]) (λ_=>[])
  (λy=>[eH y.1 0 (kD k vh vs vr vc vu gh gc vn vl),eH y.2.1 0 [.int .i64 (fi:Int)],eH y.2.2.1 0 (iQ r v1 v2),eH y.2.2.2 0 [vp]]) (λ_=>True):=by
 refine aI _ (aO 48) λB w0=>?_;refine go ?_;intro b4 b5 b6 b7;refine go ?_;refine bA (eD (b:=b4)) (h:=?_);refine bA (eD (b:=b5)) (h:=?_);refine bA (eD (b:=b6)) (h:=?_);refine bA (eD (b:=b7)) (h:=?_);exact ae (b4,b7,b6,b5) (hv:=rfl) (hp:=trivial)
theorem ET{B:List Nat}{w0:Wd}{kl:List OA}{F:List aF}{Q:IH->Prop}(f:aF)(hf:∀w,f.p w)(h:R Q B w0 kl (f::F)):R Q B w0 kl F:=λw s=>
 h w ⟨s.agree,s.le,s.fI,s.own,λg hg=>by
  rcases dH.1 hg with rfl|hg
  ·exact hf w
  ·exact s.facts g hg⟩
def yI(p:List Clue)(r:aQ)(ls:List (List Int))(j:Nat):List (Nat×List Int×List Int):=((ls.drop j).zipIdx (0+(ls.take j).length)).filterMap (mM p r)
theorem Vh{p:List Clue}{r:aQ}{ls:List (List Int)}(j:Nat):ja p r ls=ja p r (ls.take j)++yI p r ls j:=by
 unfold ja yI;rw[<- Oj,<- Cy,r9]
theorem Vi{bk bf br bp:Nat}{k:bS}{p:List Clue}{r:aQ}{fi:Nat}{ls:List (List Int)}{vh vs vr vc vu gh gc vn vl vp v1 v2:Value}(hS:nu k)(hl:p.length<4611686018427387904)(hs:Jh p)(hls:k.lists[fi]? =some ls):
 L6 Tryz.prog Eo zP (.func 79) [] [ptr' bk,ptr' bf,ptr' br,ptr' bp] [eH bk 0 (kD k vh vs vr vc vu gh gc vn vl),eH bf 0 [.int .i64 (fi:Int)],eH br 0 (iQ r v1 v2),eH bp 0 [vp],ah (aj (aj aa)) vl k.lists,ah iV vp p] (λxs=>xs.map nM=ja p r ls):=by
 intro S inv ok step s0 uB y1 y2 F' h0 hok hy;rw[dD,dD,dD,dD,dD,dD,bZ];refine aI _ (aO 79) λB w0=>?_;have hll:=(hS.lists.2 ls (bH hls)).1;have hfi:=(bP.1 hls).1;refine go ?_;refine bi (aj (aj aa)) (xs:=k.lists) (next:=λ_ _ ls2 (Nu:Value) Vj=>?_);rw[hls]at Vj;obtain rfl:ls=ls2:=Option.some.inj Vj;refine go ?_;refine aZ (λy:Nat×List LA×S=>ls.length - y.1) (λy=>[(17,.int .i64 (y.1:Int))]) (λy=>inv y.2.2) (λ_=>[]) (λy=>y.1<=ls.length/\ok y.2.1 y.2.2/\y.2.1.map nM=ja p r (ls.take y.1)/\∀rest,gQ step s0 (y.2.1++rest)=gQ step y.2.2 rest) (0,[],s0) ⟨bY _,h0,rfl,λ_=>rfl⟩ (body:=?_);rintro⟨j,fG,s⟩ ⟨hj,hos,yJ,hrun⟩;dsimp only at hj hos yJ hrun⊢;refine go ?_;refine ay rfl (λh1=>?_) (λh1=>?_)
 rotate_left
 ·have ig:j=ls.length:=by omega
  subst ig;rw[bK]at yJ;have hr2:=hrun [];rw[gN]at hr2;refine go ?_;exact ae fG (hv:=rfl) (hp:=yJ) (hk:=by rw[hr2];exact aG.all _)
 refine go ?_;refine bi (aj aa) (xs:=ls) (next:=λ_ _ ps (vps:Value) hps=>?_);have Cm:=Iy (p:=p) (r:=r) hps;refine aS (E:=aa) (v:=vps) (xs:=ps) (by simp) λap cp ep=>?_;subst ep;refine go ?_;intro b8;refine go ?_;refine ay rfl (λh2=>?_) (λh2=>?_)
 ·have hlr:mM p r (ps,j)=(oO p r.aH (j:Int)).map λv=>(j,ps,v):=by unfold mM;rw[if_neg (by omega)]
  refine go ?_;refine ax (aha (p:=p) (t:=⟨r.aH,(j:Int),[]⟩) (vt:=.slice none 0 0) hl hs) (next:=λy hy2=>?_);have vG:=hy2.find hs;obtain⟨n,fd⟩:=y;dsimp only at vG⊢;rw[bZ];cases fd with
  |false=>
   have hnn:=vG.2 rfl;rw[hlr,hnn]at Cm;refine go ?_;exact aP (j+1,fG,s) (by show ls.length - (j+1)<ls.length - j;omega) ⟨by show j+1<=_;omega,hos,by show fG.map nM=_;rw[yJ,Cm];exact(gN _).symm,hrun⟩
  |true=>
   obtain⟨g,hg,hfg⟩:=vG.1 rfl;have PX:=(bP.1 hg).1;rw[hlr,hfg]at Cm;refine go ?_;refine abE iV 3 rfl hg λb o f cc yc ec=>?_;subst ec;rw[show iV.fs g yc=[ah aa yc g.values]from rfl,dD,bZ,show iV.pat g yc=[.int .i64 g.aH,.int .i64 g.at_,yc]from rfl];refine go ?_;refine(QG (b:=b) (o:=o+n*3) (j:=2) (cs:=[.int .i64 g.aH,.int .i64 g.at_,yc]) (v:=yc) rfl rfl rfl (dM ..) rfl).h ?_;refine aS (E:=aa) (v:=yc) (xs:=g.values) (by simp) λaq cq eq=>?_;subst eq;generalize hxd:((j,(ps,Value.slice ap ps.length cp),(g.values,Value.slice aq g.values.length cq)):LA)=x;have hnx:ja p r (ls.take (j+1))=ja p r (ls.take j)++[nM x]:=by rw[Cm,<- hxd];rfl
   have hX:(fG++x::yj (yI p r ls (j+1))).map nM=ja p r ls:=by
    rw[eB,gT,Ti,yJ];conv=>rhs;rw[Vh (j+1),hnx,fB]
    rfl
   have nO:=hy _ s _ _ hos hX;rw[show Eo x=[.int .i64 (j:Int),.agg ⟨[.slice ap ps.length cp,.slice aq g.values.length cq]⟩]by rw[<- hxd];rfl,show zP x=[ah aa (.slice ap ps.length cp) ps,ah aa (.slice aq g.values.length cq) g.values]by rw[<- hxd];rfl]at nO;rw[dD,dD,bZ]at nO;refine go ?_;refine ax nO (next:=λ_ _=>?_);cases hst:(step s x).2 with
   |true=>
    have hs1:step s x=((step s x).1,true):=Prod.ext rfl hst;refine go ?_;refine aP (j+1,fG++[x],(step s x).1) (by show ls.length - (j+1)<ls.length - j;omega) ⟨by show j+1<=_;omega,hok _ s _ _ hos hX hst,?_,λrest=>?_⟩
    ·show(fG++[x]).map nM=_;rw[eB,nV,yJ];exact hnx.symm
    ·show gQ step s0 (fG++[x]++rest)=_;rw[fB,hrun];show gQ step s (x::rest)=_;rw[gQ,hs1]
   |false=>
    have hs1:step s x=((step s x).1,false):=Prod.ext rfl hst;have hr:=hrun (x::yj (yI p r ls (j+1)));rw[gQ,hs1]at hr;dsimp only at hr;refine go ?_;exact ae (fG++x::yj (yI p r ls (j+1))) (hv:=rfl) (hp:=hX) (hk:=by rw[hr];first|exact aG.all _|exact aG.self _ _)
 ·have hlr:mM p r (ps,j)=some (j,ps,[]):=by unfold mM;rw[if_pos (by omega)]
  rw[hlr]at Cm;refine ET (ah aa (.slice none 0 0) ([]:List Int)) (λw=>.inl ⟨rfl,none,0,rfl,trivial⟩) ?_;generalize hxd:((j,(ps,Value.slice ap ps.length cp),(([]:List Int),Value.slice none 0 0)):LA)=x;have hnx:ja p r (ls.take (j+1))=ja p r (ls.take j)++[nM x]:=by rw[Cm,<- hxd];rfl
  have hX:(fG++x::yj (yI p r ls (j+1))).map nM=ja p r ls:=by
   rw[eB,gT,Ti,yJ];conv=>rhs;rw[Vh (j+1),hnx,fB]
   rfl
  have nO:=hy _ s _ _ hos hX;rw[show Eo x=[.int .i64 (j:Int),.agg ⟨[.slice ap ps.length cp,.slice none 0 0]⟩]by rw[<- hxd];rfl,show zP x=[ah aa (.slice ap ps.length cp) ps,ah aa (.slice none 0 0) []]by rw[<- hxd];rfl]at nO;rw[dD,dD,bZ]at nO;refine go ?_;refine ax nO (next:=λ_ _=>?_);cases hst:(step s x).2 with
  |true=>
   have hs1:step s x=((step s x).1,true):=Prod.ext rfl hst;refine go ?_;refine aP (j+1,fG++[x],(step s x).1) (by show ls.length - (j+1)<ls.length - j;omega) ⟨by show j+1<=_;omega,hok _ s _ _ hos hX hst,?_,λrest=>?_⟩
   ·show(fG++[x]).map nM=_;rw[eB,nV,yJ];exact hnx.symm
   ·show gQ step s0 (fG++[x]++rest)=_;rw[fB,hrun];show gQ step s (x::rest)=_;rw[gQ,hs1]
  |false=>
   have hs1:step s x=((step s x).1,false):=Prod.ext rfl hst;have hr:=hrun (x::yj (yI p r ls (j+1)));rw[gQ,hs1]at hr;dsimp only at hr;refine go ?_;exact ae (fG++x::yj (yI p r ls (j+1))) (hv:=rfl) (hp:=hX) (hk:=by rw[hr];first|exact aG.all _|exact aG.self _ _)
theorem EU{P:Program}{Y Z:Type}{fn:Fn}{args cap:List Value}{kl:List OA}{F:List aF}{val:Y->Value}{Vk:Z->Value}{kl':Y->List OA}{dL:Z->List OA}{fs:Y->List aF}{Jf:Z->List aF}{pr:Y->Prop}{Vl:Z->Prop}(h:bn P fn args cap kl F val kl' fs pr)(g:Y->Z)
 (hv:∀y,pr y->val y=Vk (g y)) (hk:∀y,kl' y=dL (g y)) (hf:∀y (w:Wd),pr y->(∀f∈F,f.p w)->(∀f∈fs y,f.p w)->∀f∈Jf (g y),f.p w) (hp:∀y,pr y->Vl (g y)):bn P fn args cap kl F Vk dL Jf Vl:=λB w s=>by
 refine .qy _ (h B w s) ?_;rintro r pm h' ⟨e,w',y,e1,st,er,hp'⟩;exact⟨e,w',g y,e1,⟨st.agree,st.le,st.fI,hk y▸st.own,hf y w' hp' (λf hf=>f.mono st.le (s.facts f hf)) st.facts⟩,er.trans (congrArg iK.ok (hv y hp')),hp y hp'⟩
abbrev Cn(fn:Fn)(cap:List Value)(F:List aF)(r:aQ)(cells vals:List Int):Prop:=∀vc vv v1 v2:Value,
 bn Tryz.prog fn [.agg ⟨iQ r v1 v2⟩,.agg ⟨[vc,vv]⟩] cap [] (ah aa vc cells::ah aa vv vals::F) (λvr:Value=>Ck (gy r cells vals).kind (gy r cells vals).set (gy r cells vals).other (gy r cells vals).lo (gy r cells vals).hi vr) (λ_=>[]) (λvr=>[ah aa vr (gy r cells vals).runs]) (λ_=>True)
def EW(r:aQ)(vals:List Int):Prop:=(r.kind=2\/r.kind=3->r.bW≠jS->0<vals.length)/\(r.kind=11->0<vals.length/\∀x∈vals,0<=x/\x<16)
theorem EX(w:Wd):(ah aa (.slice none 0 0) ([]:List Int)).p w:=.inl ⟨rfl,none,0,rfl,trivial⟩
theorem Ai{b:Nat}{F:List aF}{r:aQ}{kd:Int}{cells vals:List Int}(hk:Tg r.kind=kd)(hn:r.kind≠2/\r.kind≠3/\r.kind≠5/\r.kind≠11)(hF:eH b 0 [.int .i64 kd]∈F):Cn (.func 119) [ptr' b] F r cells vals:=by
 intro vc vv v1 v2;have e:gy r cells vals=⟨kd,cells,r.set,r.other,r.n,0,[],0,0⟩:=by simp[gy,hn,hk]
 rw[e];exact EU ((ag4 (b:=b) (k:=kd) (r:=r) (vc:=vc) (vv:=vv) (v1:=v1) (v2:=v2)).facts (λf hf=>by rw[bI.1 hf];exact dJ _ (dJ _ hF))) (λ_=>Value.slice none 0 0) (λ_ _=>rfl) (λ_=>rfl) (λ_ w _ _ _ f hf=>by rw[bI.1 hf];exact EX w) (λ_ _=>trivial)
theorem ahe{F:List aF}{r:aQ}{cells vals:List Int}(hk:r.kind=2)(hp:EW r vals):Cn (.func 75) [] F r cells vals:=by
 intro vc vv v1 v2;have e:gy r cells vals=⟨2,cells,r.set,0,(kw r vals cells.length).1,(kw r vals cells.length).2,[],0,0⟩:=by simp[gy,hk]
 rw[e];exact EU ((ag5 (r:=r) (cells:=cells) (vals:=vals) (vc:=vc) (vv:=vv) (v1:=v1) (v2:=v2) (hp.1 (.inl hk))).facts (λf hf=>by simp only[dH,Fe,or_false]at hf⊢;rcases hf with rfl|rfl<;>simp)) (λ_=>Value.slice none 0 0) (λ_ _=>rfl) (λ_=>rfl) (λ_ w _ _ _ f hf=>by rw[bI.1 hf];exact EX w) (λ_ _=>trivial)
theorem ahf{F:List aF}{r:aQ}{cells vals:List Int}(hk:r.kind=3)(hp:EW r vals):Cn (.func 76) [] F r cells vals:=by
 intro vc vv v1 v2;have e:gy r cells vals=⟨3,cells,0,0,(kw r vals 65536).1,(kw r vals 65536).2,[],0,0⟩:=by simp[gy,hk]
 rw[e];exact EU ((ag6 (r:=r) (vals:=vals) (vc:=vc) (vv:=vv) (v1:=v1) (v2:=v2) (hp.1 (.inr hk))).facts (λf hf=>by rw[bI.1 hf];simp)) (λ_=>Value.slice none 0 0) (λ_ _=>rfl) (λ_=>rfl) (λ_ w _ _ _ f hf=>by rw[bI.1 hf];exact EX w) (λ_ _=>trivial)
theorem ahg{F:List aF}{r:aQ}{cells vals:List Int}(hk:r.kind=5):Cn (.func 77) [] F r cells vals:=by
 intro vc vv v1 v2;have e:gy r cells vals=⟨5,cells,r.set,0,0,0,vals,0,0⟩:=by simp[gy,hk]
 rw[e];exact EU ((ag7 (r:=r) (vals:=vals) (vc:=vc) (vv:=vv) (v1:=v1) (v2:=v2)).facts (λf hf=>by rw[bI.1 hf];simp)) (λ_=>vv) (λ_ _=>rfl) (λ_=>rfl) (λ_ w _ hF _ f hf=>by rw[bI.1 hf];exact hF _ (by simp)) (λ_ _=>trivial)
theorem ahh{F:List aF}{r:aQ}{cells vals:List Int}(hk:r.kind=11)(hp:EW r vals):Cn (.func 78) [] F r cells vals:=by
 intro vc vv v1 v2;have e:gy r cells vals=⟨2,cells,((1<<<(vals.getD 0 0).toNat:Nat):Int),0,1,1,[],0,0⟩:=by simp[gy,hk]
 rw[e];exact EU ((ag8 (r:=r) (vals:=vals) (vc:=vc) (vv:=vv) (v1:=v1) (v2:=v2) (hp.2 hk).1 (hp.2 hk).2).facts (λf hf=>by rw[bI.1 hf];simp)) (λ_=>Value.slice none 0 0) (λ_ _=>rfl) (λ_=>rfl) (λ_ w _ _ _ f hf=>by rw[bI.1 hf];exact EX w) (λ_ _=>trivial)
structure ahi(y:ES)(r:aQ)(fm:Int)(fn:Fn)(cap:List Value):Prop where
 at_:iY (jE (NN y) (r.kind.toNat*3)) 3=some [.int .i64 fm,.int .i64 (ic r:Int),.func fn #[] ⟨cap⟩]
 oM:(if fm<0 then r.family else fm)=eY r
 ok:∀cells vals,EW r vals->Cn fn cap (Vf y) r cells vals
theorem ahj(y:ES){r:aQ}(h:1<=r.kind/\r.kind<=11):∃fm fn cap,ahi y r fm fn cap:=by
 have hk:r.kind=1\/r.kind=2\/r.kind=3\/r.kind=4\/r.kind=5\/r.kind=6\/r.kind=7\/r.kind=8\/r.kind=9\/r.kind=10\/r.kind=11:=by omega
 rcases hk with e|e|e|e|e|e|e|e|e|e|e
 ·exact⟨-1,.func 119,[ptr' y.b1],by rw[e,ic,if_pos (.inl e)];rfl,by unfold eY;rw[if_pos (by omega),if_neg (by omega),if_neg (by omega),if_neg (by omega)],λcells vals hp=>Ai (kd:=1) (by rw[e];rfl) (by omega) (by simp)⟩
 ·exact⟨-1,.func 75,[],by rw[e,ic,if_neg (by omega)];rfl,by unfold eY;rw[if_pos (by omega),if_neg (by omega),if_neg (by omega),if_neg (by omega)],λcells vals hp=>ahe e hp⟩
 ·exact⟨-1,.func 76,[],by rw[e,ic,if_neg (by omega)];rfl,by unfold eY;rw[if_pos (by omega),if_neg (by omega),if_neg (by omega),if_neg (by omega)],λcells vals hp=>ahf e hp⟩
 ·exact⟨-1,.func 119,[ptr' y.b4],by rw[e,ic,if_pos (.inr e)];rfl,by unfold eY;rw[if_pos (by omega),if_neg (by omega),if_neg (by omega),if_neg (by omega)],λcells vals hp=>Ai (kd:=4) (by rw[e];rfl) (by omega) (by simp)⟩
 ·exact⟨-1,.func 77,[],by rw[e,ic,if_neg (by omega)];rfl,by unfold eY;rw[if_pos (by omega),if_neg (by omega),if_neg (by omega),if_neg (by omega)],λcells vals hp=>ahg e⟩
 ·exact⟨6,.func 119,[ptr' y.b6],by rw[e,ic,if_neg (by omega)];rfl,by unfold eY;rw[if_neg (by omega),if_pos (by omega)],λcells vals hp=>Ai (kd:=1) (by rw[e];rfl) (by omega) (by simp)⟩
 ·exact⟨6,.func 119,[ptr' y.b7],by rw[e,ic,if_neg (by omega)];rfl,by unfold eY;rw[if_neg (by omega),if_pos (by omega)],λcells vals hp=>Ai (kd:=6) (by rw[e];rfl) (by omega) (by simp)⟩
 ·exact⟨6,.func 119,[ptr' y.b8],by rw[e,ic,if_neg (by omega)];rfl,by unfold eY;rw[if_neg (by omega),if_pos (by omega)],λcells vals hp=>Ai (kd:=7) (by rw[e];rfl) (by omega) (by simp)⟩
 ·exact⟨7,.func 119,[ptr' y.b9],by rw[e,ic,if_neg (by omega)];rfl,by unfold eY;rw[if_neg (by omega),if_neg (by omega),if_pos (by omega)],λcells vals hp=>Ai (kd:=8) (by rw[e];rfl) (by omega) (by simp)⟩
 ·exact⟨7,.func 119,[ptr' y.b10],by rw[e,ic,if_neg (by omega)];rfl,by unfold eY;rw[if_neg (by omega),if_neg (by omega),if_pos (by omega)],λcells vals hp=>Ai (kd:=9) (by rw[e];rfl) (by omega) (by simp)⟩
 ·exact⟨0,.func 78,[],by rw[e,ic,if_neg (by omega)];rfl,by unfold eY;rw[if_neg (by omega),if_neg (by omega),if_neg (by omega),if_pos (by omega)],λcells vals hp=>ahh e hp⟩
structure Ji where
 ok:Bool
 e:Int
 vv:Value
 vc:Value
abbrev ahk:List Value:=[.int .i64 0,.int .i64 0,.slice none 0 0,.slice none 0 0,.slice none 0 0]
abbrev Co(k:bS)(p:List Clue)(vn:Value)(y:Ji):Value:=.tuple ⟨[.agg ⟨cond y.ok (qJ (tK k p) y.vv vn y.vc) ahk⟩,.int .i64 y.e]⟩
abbrev Cq(k:bS)(p:List Clue)(y:Ji):List aF:=cond y.ok [ah aa y.vv (uR k),ah jL y.vc (mO k p)] []
structure EY(k:bS)(p:List Clue)(y:Ji):Prop where
 nk:¬fC k->y.e=180
 np:fC k->¬jR k p->y.e=190
 nl:fC k->jR k p->4096<(mO k p).length->y.e=2
 ok:fC k->jR k p->(mO k p).length<=4096->y.e=0
 eq:y.ok=true↔y.e=0
theorem Vm{k:bS}{p:List Clue}{r:aQ}{ls:List (List Int)}(hf:RF k r)(hQ:jR k p)(hs:k.decl.symbols.length<=16){y:Nat×List Int×List Int}(hy:y∈ja p r ls):EW r y.2.2:=by
 have hb:=hf.Va;rcases hf.vals hQ hy with h|⟨h0,c,_,_,h|h|h⟩
 ·refine⟨λ_ hn=>absurd (hb.2 h.1) hn,λhk=>?_⟩;have:=hf.Vb (.inr hk);omega
 ·exact⟨λhk=>by omega,λ_=>⟨by omega,λx hx=>by have:=h.2.2.2 x hx;omega⟩⟩
 ·exact⟨λ_ _=>by omega,λhk=>by omega⟩
 ·exact⟨λhk=>by omega,λhk=>by omega⟩
def ou(r:aQ)(i:Nat)(s:List jl)(x:LA):List jl:=if ic r<=x.2.1.1.length then s++[gV r i (nM x)]else s
theorem Aj(r:aQ)(i:Nat):∀(xs:List LA) (s:List jl),ji (λs x=>(ou r i s x,Out.normal)) s xs=(s++((xs.map nM).filter λx=>decide (ic r<=x.2.1.length)).map (gV r i),Out.normal)
 |[],s=>by simp[ji]
 |x::xs,s=>by
  rw[ji];dsimp only;rw[Aj r i xs];unfold ou;rw[gT,Jp];by_cases h:ic r<=x.2.1.1.length
  ·rw[if_pos h,if_pos (by exact dS h),gT,fB];rfl
  ·rw[if_neg h,if_neg (by rw[qg];exact h)]
set_option maxRecDepth 100000 in
theorem ahl{k:bS}{p:List Clue}{vh vs vr vc vu gh gc vn vl vp:Value}(hS:nu k)(hP:yF p):
 bn Tryz.prog (.func 21) [.agg ⟨kD k vh vs vr vc vu gh gc vn vl⟩,.agg ⟨[vp]⟩] [] [] (ah iV vp p::kX k vh vs vr vc vu gh gc vn vl []) (Co k p vn) (λ_=>[]) (Cq k p) (EY k p):=by
 refine DZ _ (aO 21) λB w0=>?_;refine aS (E:=fq) (v:=vs) (xs:=k.decl.symbols) (by simp) λkC cs1 es1=>?_;subst es1;refine aS (E:=aY) (v:=vu) (xs:=k.decl.rules) (by simp) λau cu eu=>?_;subst eu;refine aS (E:=aa) (v:=gc) (xs:=k.grid.cells) (by simp) λag cg eg=>?_;subst eg;refine aS (E:=aj aa) (v:=vn) (xs:=k.bq) (by simp) λan cn en=>?_;subst en;refine go ?_;intro b2 b3 b4;refine go ?_;refine ax (afx (k:=k) (p:=p) (vh:=vh) (vs:=.slice kC k.decl.symbols.length cs1) (vr:=vr) (vc:=vc) (vu:=.slice au k.decl.rules.length cu) (gh:=gh) (gc:=.slice ag k.grid.cells.length cg) (vn:=.slice an k.bq.length cn) (vl:=vl) (vp:=vp) hS hP) (next:=λe he=>?_);refine go ?_;refine ay rfl (λh1=>?_) (λh1=>?_)
 ·have EZ:fC k->jR k p->False:=λa b=>h1 (he.2.2 a b);refine go ?_;exact Br ⟨false,e,.slice none 0 0,.slice none 0 0⟩ (hv:=rfl) (hp:=⟨he.1,he.2.1,λa b=>(EZ a b).elim,λa b=>(EZ a b).elim,⟨λh=>(by cases h),λh=>absurd h h1⟩⟩)
 have hz:e=0:=iI.1 h1;subst hz;have hK:fC k:=Classical.byContradiction λh=>by have:=he.1 h;omega
 have hQ:jR k p:=Classical.byContradiction λh=>by have:=he.2.1 hK h;omega
 have hsl:=hK.typ.lim.s1;have hrl:=hK.typ.lim.u;have hgl:=hK.bX.len;rw[<- hK.grid]at hgl;refine go ?_;refine fZ aa ?_;refine aZ (λy:Nat×Value=>k.decl.symbols.length - y.1) (λy=>[(38,.int .i64 (y.1:Int))]) (λy=>[pt b4 (.cells (qJ (tK k p) y.2 (.slice an k.bq.length cn) (.slice none 0 0))),ap aa y.2 ((k.decl.symbols.take y.1).map (·.value))]) (λ_=>[]) (λy=>y.1<=k.decl.symbols.length) (0,.slice none 0 0) (bY _) (hk:=by repeat (first|exact aG.nil|(apply aG.cons;(focus (repeat (first|exact az.here|apply az.there)))))) (body:=?_);rintro⟨j,vv⟩ hj;dsimp only at hj⊢;have hjl:((k.decl.symbols.take j).map (·.value)).length=j:=by rw[cz,gW];omega
 refine go ?_;refine ay rfl (λh2=>?_) (λh2=>?_)
 ·refine go ?_;refine bi fq (xs:=k.decl.symbols) (next:=λ_ _ s (_:Unit) hs=>?_);have htk:(k.decl.symbols.take (j+1)).map (·.value)=(k.decl.symbols.take j).map (·.value)++[s.value]:=by rw[bU hs,eB,nV]
  refine go ?_;intro b7;refine go ?_;intro b46;refine go ?_;refine eO (xs:=(k.decl.symbols.take j).map (·.value)) aa s.value () (by omega) (next:=λad=>?_);rw[<- htk];refine go ?_;exact aP (j+1,.slice ad (((k.decl.symbols.take j).map (·.value)).length+1) (((k.decl.symbols.take j).map (·.value)).length+1)) (by show k.decl.symbols.length - (j+1)<k.decl.symbols.length - j;omega) (by show j+1<=_;omega)
 have ig:j=k.decl.symbols.length:=by omega
 subst ig;rw[bK,show k.decl.symbols.map (·.value)=uR k from rfl];refine bA (fV (E:=aa) (v:=vv) (xs:=uR k)) (h:=?_);refine go ?_;refine ax ag9 (next:=λy _=>?_);refine go ?_;intro b8;refine bA (eD (b:=b8)) (h:=?_);have hlf:∀l∈k.lists,l.length<=2048:=by rw[hK.lists];exact Tn hK.bX (λr hr=>(hK.typ.Ab r hr).1.2)
 have hpl:p.length<4611686018427387904:=by have:=hQ.len;omega
 have rW:Jh p:=λi j a b hij ha hb=>Iz hQ (j - (i+1)) i a b ha (by rw[show i+1+(j - (i+1))=j by omega];exact hb);refine go ?_;refine fZ jL ?_;refine aaS ?_;refine aaT (λy=>y.2.2.map Lv) (λy:Nat×Value×List Nat=>k.decl.rules.length - y.1) (λy=>[(55,.int .i64 (y.1:Int))]) (λy=>[Bt y.2.2,pt b2 (.cells (kD k vh (.slice kC k.decl.symbols.length cs1) vr vc (.slice au k.decl.rules.length cu) gh (.slice ag k.grid.cells.length cg) (.slice an k.bq.length cn) vl)),pt b3 (.cells [vp]),pt b4 (.cells (qJ (tK k p) vv (.slice an k.bq.length cn) y.2.1)),ap jL y.2.1 (j5 k p y.1)]) (λ_=>[]) (λy=>y.1<=k.decl.rules.length) (0,.slice none 0 0,[]) (bY _) (hk:=by repeat (first|exact aG.nil|(apply aG.cons;(focus (repeat (first|exact az.here|apply az.there)))))) (body:=?_);rintro⟨j,wH,rs⟩ hj;dsimp only at hj⊢;have hcl:=IC (p:=p) hlf j hj;refine go ?_;refine ay rfl (λh3=>?_) (λh3=>?_)
 ·refine go ?_;refine bi aY (xs:=k.decl.rules) (next:=λ_ _ r (w:Value×Value) hr=>?_);have hrm:=bH hr;have hf:=hK.rf hrm;have hkd:=hf.kd;obtain⟨ls,hls,_⟩:=hf.list hK;obtain⟨fm,fn,cap,hM⟩:=ahj y hf.kd;have Jj:=hM.oM;have hf0:0<=eY r:=by
   have:=hf.f0;unfold eY;repeat' split
   all_goals omega
  refine go ?_;intro b9 b10;refine go ?_;refine(Lj (b:=b8) (o:=0) (j:=r.kind.toNat*3) (m:=3) (cs:=NN y) (c:=[.int .i64 fm,.int .i64 (ic r:Int),.func fn #[] ⟨cap⟩]) rfl rfl rfl (by repeat (first|exact dM .. |apply dJ)) hM.at_).h ?_;refine go ?_;intro b11;refine go ?_;refine ay rfl (λh4=>?_) (λh4=>?_)
  ·rw[if_pos h4]at Jj;have hfi:(((eY r).toNat:Nat):Int)=r.family:=by rw[Jj];exact Int.toNat_of_nonneg hf0
   have hL:=Vg (k:=k) (r:=r) (fi:=(eY r).toNat) (vh:=vh) (vs:=.slice kC k.decl.symbols.length cs1) (vr:=vr) (vc:=vc) (vu:=.slice au k.decl.rules.length cu) (gh:=gh) (gc:=.slice ag k.grid.cells.length cg) (vn:=.slice an k.bq.length cn) (vl:=vl) (vp:=vp) (v1:=w.1) (v2:=w.2);rw[hfi]at hL;refine go ?_;refine bA (eD (b:=b9)) (h:=?_);refine bA (eD (b:=b10)) (h:=?_);refine bA (eD (b:=b11)) (h:=?_);refine ax hL (next:=λyl _=>?_);have hL1:=Vi (bk:=yl.1) (bf:=yl.2.1) (br:=yl.2.2.1) (bp:=yl.2.2.2) (k:=k) (p:=p) (r:=r) (fi:=(eY r).toNat) (ls:=ls) (vh:=vh) (vs:=.slice kC k.decl.symbols.length cs1) (vr:=vr) (vc:=vc) (vu:=.slice au k.decl.rules.length cu) (gh:=gh) (gc:=.slice ag k.grid.cells.length cg) (vn:=.slice an k.bq.length cn) (vl:=vl) (vp:=vp) (v1:=w.1) (v2:=w.2) hS hpl rW hls;rw[hfi]at hL1;refine go ?_;refine uz (λv:Value=>[pt b4 (.cells (qJ (tK k p) vv (.slice an k.bq.length cn) v)),ap jL v (j5 k p j)]) wH (h:=?_);refine Sl (Z:=Nat) (λ(s:List jl) (x:LA)=>(ou r j s x,Out.normal)) (λs=>[Bq λv:Value=>[pt b4 (.cells (qJ (tK k p) vv (.slice an k.bq.length cn) v)),ap jL v s]]) (λvs s=>s=j5 k p j++((vs.map nM).filter λx=>decide (ic r<=x.2.1.length)).map (gV r j)) (j5 k p j) _ (λx z=>[pt z (.cells [x.2.1.2,x.2.2.2])]) (by simp) (λvs s x rest hs _ _=>by
    have:=Aj r j (vs++[x]) (j5 k p j);have h2:=Aj r j vs (j5 k p j);rw[hs];show ou r j _ x=_;unfold ou;rw[eB,wV,eB,nV];by_cases h:ic r<=x.2.1.1.length
    ·rw[if_pos h,VI (by exact dS h)];simp
    ·rw[if_neg h,VJ (by rw[qg];exact h)];simp) hL1 (by intro s x lo o B w0;dsimp only[Eo,zP,List.cons_append,List.nil_append,List.zip_cons_cons,List.zip_nil_left,List.reverse_cons,List.reverse_nil];refine go ?_;intro b14;refine go ?_;exact zG b14 rfl) ?_ ?_ (λ_ _=>trivial)
   ·rintro vs s ⟨at_,⟨cells,wc⟩,⟨vals,wv⟩⟩ rest z lo L B w0 hs hX;have hx:(at_,cells,vals)∈ja p r ls:=by rw[<- hX];exact fE.2 ⟨(at_,(cells,wc),(vals,wv)),by simp,rfl⟩
    have hpre:=Vm hf hQ hsl hx;have hml:s.length<=65536:=by
     have h1:=Au (λx:Nat×List Int×List Int=>decide (ic r<=x.2.1.length)) (vs.map nM);have h2:=congrArg List.length hX;have h3:=hlf _ (bH hls);have h4:=IB (p:=p) (r:=r) (ls:=ls);rw[cz,gH]at h2;rw[cz]at h1;rw[hs,gH,cz];omega
    have hcc:(gV r j (at_,cells,vals)).cells=cells:=by unfold gV gy;dsimp only;(repeat' split)<;>rfl
    have hrr:(gV r j (at_,cells,vals)).runs=(gy r cells vals).runs:=rfl;dsimp only[zP,List.cons_append,List.nil_append,List.reverse_cons,List.reverse_nil];refine aS (E:=aa) (v:=wc) (xs:=cells) (by simp) λak ck ek=>?_;subst ek;have hmk:=hM.ok cells vals hpre (.slice ak cells.length ck) wv w.1 w.2;refine xR (h:=λv=>?_);refine go ?_;refine ay rfl (λh5=>?_) (λh5=>?_)
    ·have hadd:ou r j s (at_,(cells,.slice ak cells.length ck),(vals,wv))=s:=by unfold ou;rw[if_neg (by show¬ic r<=cells.length;omega)]
     rw[hadd];refine go ?_;refine uz (λv:Value=>[pt b4 (.cells (qJ (tK k p) vv (.slice an k.bq.length cn) v)),ap jL v s]) v (h:=?_);exact uA () rfl trivial trivial
    have hadd:ou r j s (at_,(cells,.slice ak cells.length ck),(vals,wv))=s++[gV r j (at_,cells,vals)]:=by unfold ou;rw[if_pos (by show ic r<=cells.length;omega)];rfl
    rw[hadd];refine go ?_;refine ax hmk (next:=λvq _=>?_);refine go ?_;intro b15;refine go ?_;intro Nf;refine eT (ah aa (.slice ak cells.length ck) (gV r j (at_,cells,vals)).cells) (λw hw=>by rw[hcc];exact hw (ah aa (.slice ak cells.length ck) cells) (by simp)) ?_;refine eT (ah aa vq (gV r j (at_,cells,vals)).runs) (λw hw=>hw (ah aa vq (gy r cells vals).runs) (by simp)) ?_;refine eO (xs:=s) jL (gV r j (at_,cells,vals)) (.slice ak cells.length ck,vq) (by omega) (next:=λad=>?_);refine go ?_;refine uz (λv:Value=>[pt b4 (.cells (qJ (tK k p) vv (.slice an k.bq.length cn) v)),ap jL v (s++[gV r j (at_,cells,vals)])]) _ (h:=?_);exact uA () rfl trivial trivial
   ·intro rr xs hX;rw[Aj,hX];have hnew:j5 k p j++((ja p r ls).filter λx=>decide (ic r<=x.2.1.length)).map (gV r j)=j5 k p (j+1):=by
     rw[IA hr];unfold uI BM;rw[uC hls]
    rw[hnew];dsimp only[List.cons_append,List.nil_append];refine xR (h:=λv=>?_);refine go ?_;refine Q7 (rs:=rs) (r:=rr) (h:=?_);exact Q9 (j+1,v,rr::rs) (by show k.decl.rules.length - (j+1)<k.decl.rules.length - j;omega) (by show j+1<=_;omega)
  ·rw[if_neg h4]at Jj;have hfi:(((eY r).toNat:Nat):Int)=fm:=by rw[Jj];exact Int.toNat_of_nonneg hf0
   have hL:=Vg (k:=k) (r:=r) (fi:=(eY r).toNat) (vh:=vh) (vs:=.slice kC k.decl.symbols.length cs1) (vr:=vr) (vc:=vc) (vu:=.slice au k.decl.rules.length cu) (gh:=gh) (gc:=.slice ag k.grid.cells.length cg) (vn:=.slice an k.bq.length cn) (vl:=vl) (vp:=vp) (v1:=w.1) (v2:=w.2);rw[hfi]at hL;refine go ?_;refine bA (eD (b:=b9)) (h:=?_);refine bA (eD (b:=b10)) (h:=?_);refine bA (eD (b:=b11)) (h:=?_);refine ax hL (next:=λyl _=>?_);have hL1:=Vi (bk:=yl.1) (bf:=yl.2.1) (br:=yl.2.2.1) (bp:=yl.2.2.2) (k:=k) (p:=p) (r:=r) (fi:=(eY r).toNat) (ls:=ls) (vh:=vh) (vs:=.slice kC k.decl.symbols.length cs1) (vr:=vr) (vc:=vc) (vu:=.slice au k.decl.rules.length cu) (gh:=gh) (gc:=.slice ag k.grid.cells.length cg) (vn:=.slice an k.bq.length cn) (vl:=vl) (vp:=vp) (v1:=w.1) (v2:=w.2) hS hpl rW hls;rw[hfi]at hL1;refine go ?_;refine uz (λv:Value=>[pt b4 (.cells (qJ (tK k p) vv (.slice an k.bq.length cn) v)),ap jL v (j5 k p j)]) wH (h:=?_);refine Sl (Z:=Nat) (λ(s:List jl) (x:LA)=>(ou r j s x,Out.normal)) (λs=>[Bq λv:Value=>[pt b4 (.cells (qJ (tK k p) vv (.slice an k.bq.length cn) v)),ap jL v s]]) (λvs s=>s=j5 k p j++((vs.map nM).filter λx=>decide (ic r<=x.2.1.length)).map (gV r j)) (j5 k p j) _ (λx z=>[pt z (.cells [x.2.1.2,x.2.2.2])]) (by simp) (λvs s x rest hs _ _=>by
    have:=Aj r j (vs++[x]) (j5 k p j);have h2:=Aj r j vs (j5 k p j);rw[hs];show ou r j _ x=_;unfold ou;rw[eB,wV,eB,nV];by_cases h:ic r<=x.2.1.1.length
    ·rw[if_pos h,VI (by exact dS h)];simp
    ·rw[if_neg h,VJ (by rw[qg];exact h)];simp) hL1 (by intro s x lo o B w0;dsimp only[Eo,zP,List.cons_append,List.nil_append,List.zip_cons_cons,List.zip_nil_left,List.reverse_cons,List.reverse_nil];refine go ?_;intro b14;refine go ?_;exact zG b14 rfl) ?_ ?_ (λ_ _=>trivial)
   ·rintro vs s ⟨at_,⟨cells,wc⟩,⟨vals,wv⟩⟩ rest z lo L B w0 hs hX;have hx:(at_,cells,vals)∈ja p r ls:=by rw[<- hX];exact fE.2 ⟨(at_,(cells,wc),(vals,wv)),by simp,rfl⟩
    have hpre:=Vm hf hQ hsl hx;have hml:s.length<=65536:=by
     have h1:=Au (λx:Nat×List Int×List Int=>decide (ic r<=x.2.1.length)) (vs.map nM);have h2:=congrArg List.length hX;have h3:=hlf _ (bH hls);have h4:=IB (p:=p) (r:=r) (ls:=ls);rw[cz,gH]at h2;rw[cz]at h1;rw[hs,gH,cz];omega
    have hcc:(gV r j (at_,cells,vals)).cells=cells:=by unfold gV gy;dsimp only;(repeat' split)<;>rfl
    have hrr:(gV r j (at_,cells,vals)).runs=(gy r cells vals).runs:=rfl;dsimp only[zP,List.cons_append,List.nil_append,List.reverse_cons,List.reverse_nil];refine aS (E:=aa) (v:=wc) (xs:=cells) (by simp) λak ck ek=>?_;subst ek;have hmk:=hM.ok cells vals hpre (.slice ak cells.length ck) wv w.1 w.2;refine xR (h:=λv=>?_);refine go ?_;refine ay rfl (λh5=>?_) (λh5=>?_)
    ·have hadd:ou r j s (at_,(cells,.slice ak cells.length ck),(vals,wv))=s:=by unfold ou;rw[if_neg (by show¬ic r<=cells.length;omega)]
     rw[hadd];refine go ?_;refine uz (λv:Value=>[pt b4 (.cells (qJ (tK k p) vv (.slice an k.bq.length cn) v)),ap jL v s]) v (h:=?_);exact uA () rfl trivial trivial
    have hadd:ou r j s (at_,(cells,.slice ak cells.length ck),(vals,wv))=s++[gV r j (at_,cells,vals)]:=by unfold ou;rw[if_pos (by show ic r<=cells.length;omega)];rfl
    rw[hadd];refine go ?_;refine ax hmk (next:=λvq _=>?_);refine go ?_;intro b15;refine go ?_;intro Nf;refine eT (ah aa (.slice ak cells.length ck) (gV r j (at_,cells,vals)).cells) (λw hw=>by rw[hcc];exact hw (ah aa (.slice ak cells.length ck) cells) (by simp)) ?_;refine eT (ah aa vq (gV r j (at_,cells,vals)).runs) (λw hw=>hw (ah aa vq (gy r cells vals).runs) (by simp)) ?_;refine eO (xs:=s) jL (gV r j (at_,cells,vals)) (.slice ak cells.length ck,vq) (by omega) (next:=λad=>?_);refine go ?_;refine uz (λv:Value=>[pt b4 (.cells (qJ (tK k p) vv (.slice an k.bq.length cn) v)),ap jL v (s++[gV r j (at_,cells,vals)])]) _ (h:=?_);exact uA () rfl trivial trivial
   ·intro rr xs hX;rw[Aj,hX];have hnew:j5 k p j++((ja p r ls).filter λx=>decide (ic r<=x.2.1.length)).map (gV r j)=j5 k p (j+1):=by
     rw[IA hr];unfold uI BM;rw[uC hls]
    rw[hnew];dsimp only[List.cons_append,List.nil_append];refine xR (h:=λv=>?_);refine go ?_;refine Q7 (rs:=rs) (r:=rr) (h:=?_);exact Q9 (j+1,v,rr::rs) (by show k.decl.rules.length - (j+1)<k.decl.rules.length - j;omega) (by show j+1<=_;omega)
 have ig:j=k.decl.rules.length:=by omega
 subst ig;rw[Tp]at hcl⊢;refine go ?_;refine ay rfl (λh4=>?_) (λh4=>?_)
 ·have hno:¬(mO k p).length<=4096:=by omega
  refine go ?_;exact Q8 (rs:=rs) ⟨false,2,.slice none 0 0,.slice none 0 0⟩ (hv:=rfl) (hp:=⟨λh=>absurd hK h,λ_ h=>absurd hQ h,λ_ _ _=>rfl,λ_ _ h=>absurd h hno,⟨λh=>(by cases h),λh=>(by cases h)⟩⟩)
 have NQ:¬4096<(mO k p).length:=by omega
 refine bA (fV (E:=jL) (v:=wH) (xs:=mO k p)) (h:=?_);refine go ?_;exact Q8 (rs:=rs) ⟨true,0,vv,wH⟩ (hv:=rfl) (hp:=⟨λh=>absurd hK h,λ_ h=>absurd hQ h,λ_ _ h=>absurd h NQ,λ_ _ _=>rfl,⟨λ_=>rfl,λ_=>rfl⟩⟩)
