/-
  Puzzles: the constraints that rules make.
-/
import Derived.Test.YtoohgkkmdnbnfaaGreatDoorLibWA
set_option linter.all false
set_option maxRecDepth 10000
set_option maxHeartbeats 4000000
namespace Go.Proofs.YtoohgkkmdnbnfaaGreatDoor
open Go.Ideal Kd Canon Gph
theorem ahT{r:aU}{vals:List Int}{vc vv v1 v2:Value}(h:r.bZ≠kH->0<vals.length):dz Tryz.prog 169 [.agg ⟨[vc,vv]⟩,.agg ⟨iT r v1 v2⟩] [ah aa vv vals] (.int .i64 (yC r vals)):=by
 refine aK _ (aP 169) λB w0=>?_;refine go ?_;intro b2 b3;refine go ?_;refine eU (p:=r.bZ=kH) (by show Value.bool _=_;rw[dY]) (λh1=>?_) (λh1=>?_)
 ·have h0:=h h1;refine go ?_;intro _ _ y hy;refine go ?_;refine ae () (hv:=?_) (hp:=trivial);unfold yC;rw[if_neg h1,Va hy];rfl
 ·refine go ?_;refine ae () (hv:=?_) (hp:=trivial);unfold yC;rw[if_pos h1];rfl
theorem VD{r:aU}{vals:List Int}{vc vv v1 v2:Value}{most:Int}(h:r.bZ≠kH->0<vals.length):dz Tryz.prog 120 [.agg ⟨[vc,vv]⟩,.agg ⟨iT r v1 v2⟩,.int .i64 most] [ah aa vv vals] (.tuple ⟨[.int .i64 (nU r vals most).1,.int .i64 (nU r vals most).2]⟩):=by
 refine aK _ (aP 120) λB w0=>?_;refine go ?_;intro b3 b4;refine go ?_;refine ax (ahT (r:=r) (vals:=vals) (vc:=vc) (vv:=vv) (v1:=v1) (v2:=v2) h) (next:=λ_ _=>?_);refine go ?_;refine aA rfl (λh1=>?_) (λh1=>?_)
 ·refine go ?_;refine ae () (hv:=?_) (hp:=trivial);unfold nU;rw[if_pos h1];rfl
 refine go ?_;refine aA rfl (λh2=>?_) (λh2=>?_)
 ·refine go ?_;refine(eD rfl rfl (abd rfl rfl)).h ?_;refine go ?_;refine ae () (hv:=?_) (hp:=trivial);unfold nU;rw[if_neg h1,if_pos h2];rfl
 refine go ?_;refine ae () (hv:=?_) (hp:=trivial);unfold nU;rw[if_neg h1,if_neg h2];rfl
abbrev CK(k s o lo hi:Int)(vr:Value):Value:=.agg ⟨[.int .i64 k,.slice none 0 0,.int .i64 s,.int .i64 o,.int .i64 lo,.int .i64 hi,vr,.int .i64 0,.int .i64 0]⟩
theorem ahU{b:Nat}{k:Int}{r:aU}{vc vv v1 v2:Value}:bi Tryz.prog (.func 119) [.agg ⟨iT r v1 v2⟩,.agg ⟨[vc,vv]⟩] [ptr' b] [] [eG b 0 [.int .i64 k]] (λ_:Unit=>CK k r.set r.other r.n 0 (.slice none 0 0)) (λ_=>[]) (λ_=>[]) (λ_=>True):=by
 refine aK _ (aP 119) λB w0=>?_;refine go ?_;intro b3 b4 b5;refine go ?_;exact ae () (hv:=rfl) (hp:=trivial)
theorem Ay{k:Int}:bi Tryz.prog (.func 74) [.int .i64 k] [] [] [] (λb:Nat=>.func (.func 119) #[] #[ptr' b]) (λ_=>[]) (λb=>[eG b 0 [.int .i64 k]]) (λ_=>True):=by
 refine aK _ (aP 74) λB w0=>?_;refine go ?_;intro b1;refine go ?_;refine bD (eO (b:=b1)) (h:=?_);exact ae b1 (hv:=rfl) (hp:=trivial)
theorem ahV{r:aU}{cells vals:List Int}{vc vv v1 v2:Value}(h:r.bZ≠kH->0<vals.length):dz Tryz.prog 75 [.agg ⟨iT r v1 v2⟩,.agg ⟨[vc,vv]⟩] [ah aa vc cells,ah aa vv vals] (CK 2 r.set 0 (nU r vals cells.length).1 (nU r vals cells.length).2 (.slice none 0 0)):=by
 refine aK _ (aP 75) λB w0=>?_;refine go ?_;intro b2 b3 b4;refine go ?_;refine ax (VD (r:=r) (vals:=vals) (vc:=vc) (vv:=vv) (v1:=v1) (v2:=v2) (most:=(cells.length:Int)) h) (next:=λ_ _=>?_);refine go ?_;exact ae () (hv:=rfl) (hp:=trivial)
theorem ahW{r:aU}{vals:List Int}{vc vv v1 v2:Value}(h:r.bZ≠kH->0<vals.length):dz Tryz.prog 76 [.agg ⟨iT r v1 v2⟩,.agg ⟨[vc,vv]⟩] [ah aa vv vals] (CK 3 0 0 (nU r vals 65536).1 (nU r vals 65536).2 (.slice none 0 0)):=by
 refine aK _ (aP 76) λB w0=>?_;refine go ?_;intro b2 b3 b4;refine go ?_;refine ax (VD (r:=r) (vals:=vals) (vc:=vc) (vv:=vv) (v1:=v1) (v2:=v2) (most:=65536) h) (next:=λ_ _=>?_);refine go ?_;exact ae () (hv:=rfl) (hp:=trivial)
theorem ahX{r:aU}{vals:List Int}{vc vv v1 v2:Value}:dz Tryz.prog 77 [.agg ⟨iT r v1 v2⟩,.agg ⟨[vc,vv]⟩] [ah aa vv vals] (CK 5 r.set 0 0 0 vv):=by
 refine aK _ (aP 77) λB w0=>?_;refine aS (E:=aa) (v:=vv) (xs:=vals) (by simp) λav cv Ar=>?_;subst Ar;refine go ?_;intro b2 b3 b4;refine go ?_;exact ae () (hv:=rfl) (hp:=trivial)
theorem ahY{r:aU}{vals:List Int}{vc vv v1 v2:Value}(h0:0<vals.length)(hv:∀x∈vals,0<=x/\x<16):dz Tryz.prog 78 [.agg ⟨iT r v1 v2⟩,.agg ⟨[vc,vv]⟩] [ah aa vv vals] (CK 2 ((1<<<(vals.getD 0 0).toNat:Nat):Int) 0 1 1 (.slice none 0 0)):=by
 refine aK _ (aP 78) λB w0=>?_;refine go ?_;intro b2 b3 b4;refine go ?_;intro _ _ y hy;have hyv:=hv y (bG hy);obtain⟨n,rfl⟩:=sG hyv.1;have hlt:(1:Nat)<<<n<9223372036854775808:=by
  rw[Nat.one_shiftLeft];exact lD (JJ (by omega) (show n<16 by omega)) (by decide)
 refine q_p (LJ (a:=1) (b:=n) rfl rfl (by omega) hlt) ?_;refine go ?_;refine ae () (hv:=?_) (hp:=trivial);rw[Va hy,CY];rfl
structure F5 where
 b1:Nat
 b4:Nat
 b6:Nat
 b7:Nat
 b8:Nat
 b9:Nat
 b10:Nat
abbrev Az(b:Nat):Value:=.func (.func 119) #[] #[ptr' b]
abbrev Oa(y:F5):List Value:=[.int .i64 0,.int .i64 0,.nilFunc,.int .i64 (-1),.int .i64 2,Az y.b1,.int .i64 (-1),.int .i64 0,.func (.func 75) #[] #[],.int .i64 (-1),.int .i64 0,.func (.func 76) #[] #[],
 .int .i64 (-1),.int .i64 2,Az y.b4,.int .i64 (-1),.int .i64 0,.func (.func 77) #[] #[],.int .i64 6,.int .i64 0,Az y.b6,.int .i64 6,.int .i64 0,Az y.b7,.int .i64 6,.int .i64 0,Az y.b8,.int .i64 7,.int .i64 0,Az y.b9,.int .i64 7,.int .i64 0,Az y.b10,.int .i64 0,.int .i64 0,.func (.func 78) #[] #[]]
abbrev VE(y:F5):List aH:=[eG y.b1 0 [.int .i64 1],eG y.b4 0 [.int .i64 4],eG y.b6 0 [.int .i64 1],eG y.b7 0 [.int .i64 6],eG y.b8 0 [.int .i64 7],eG y.b9 0 [.int .i64 8],eG y.b10 0 [.int .i64 9]]
theorem ahZ:bi Tryz.prog (.func 47) [] [] [] [] (λy:F5=>.agg ⟨Oa y⟩) (λ_=>[]) VE (λ_=>True):=by
 refine aK _ (aP 47) λB w0=>?_;refine go ?_;intro b0;refine ax (Ay (k:=1)) (next:=λb1 _=>?_);refine go ?_;refine ax (Ay (k:=4)) (next:=λb4 _=>?_);refine go ?_;refine ax (Ay (k:=1)) (next:=λb6 _=>?_);refine go ?_;refine ax (Ay (k:=6)) (next:=λb7 _=>?_);refine go ?_;refine ax (Ay (k:=7)) (next:=λb8 _=>?_);refine go ?_;refine ax (Ay (k:=8)) (next:=λb9 _=>?_);refine go ?_;refine ax (Ay (k:=9)) (next:=λb10 _=>?_);dsimp only[List.cons_append,List.nil_append];refine go ?_;exact ae ⟨b1,b4,b6,b7,b8,b9,b10⟩ (hv:=rfl) (hp:=trivial)
structure Ob(p:List Clue)(t:Clue)(y:Nat×Bool):Prop where
 le:y.1<=p.length
 lo:∀(j:Nat) g,j<y.1->p[j]? =some g->gq g t<0
 hi:∀(j:Nat) g,y.1<=j->p[j]? =some g->¬gq g t<0
 is:y.2=true↔∃g,p[y.1]? =some g/\gq g t=0
def Jr(p:List Clue):Prop:=∀(i j:Nat) a b,i<j->p[i]? =some a->p[j]? =some b->gq a b<0
theorem ah0{v vt:Value}{p:List Clue}{t:Clue}(hl:p.length<4611686018427387904)(hs:Jr p):
 bi Tryz.prog (.func 80) [v,IE t vt,.func (.func 38) #[] #[]] [] [] [ah eF v p] (λy:Nat×Bool=>.tuple ⟨[.int .i64 (y.1:Int),.bool y.2]⟩) (λ_=>[]) (λ_=>[]) (Ob p t):=by
 refine aK _ (aP 80) λB w0=>?_;refine go ?_;intro b4;refine go ?_;refine aZ (λy:Nat×Nat=>y.2 - y.1) (λy=>[(9,.int .i64 (y.1:Int)),(10,.int .i64 (y.2:Int))]) (λ_=>[]) (λ_=>[]) (λy=>y.1<=y.2/\y.2<=p.length/\(∀(j:Nat) g,j<y.1->p[j]? =some g->gq g t<0)/\(∀(j:Nat) g,y.2<=j->p[j]? =some g->¬gq g t<0)) (0,p.length) ⟨cz _,bJ _,λj x hj=>by omega,λj x hj hx=>by have:=(bO.1 hx).1;omega⟩ (body:=?_);rintro⟨a,b⟩ ⟨hab,hb,hlo,hhi⟩;dsimp only at hab hb hlo hhi⊢;refine go ?_;refine aA rfl (λh1=>?_) (λh1=>?_)
 ·have D8:a<=(a+b)>>>1/\(a+b)>>>1<b:=by
   rw[We];omega
  generalize hm:(a+b)>>>1=m at D8;refine go ?_;rw[show(a:Int)+(b:Int)=((a+b:Nat):Int)by omega];refine(eD rfl rfl (yo (k:=.u64) (m:=((a+b:Nat):Int)) (by kernel_rfl:Tryz.prog.underlying 3=some (.int .i64)) (by kernel_rfl) rfl (Mf (by omega)))).h ?_;refine(eD rfl rfl (Sc (a:=a+b) (b:=1) rfl rfl (by omega))).h ?_;rw[hm];refine(eD rfl rfl (yo (k:=.i64) (m:=(m:Int)) (by kernel_rfl:Tryz.prog.underlying 63=some (.int .u64)) (by kernel_rfl) rfl (wrapN (by omega)))).h ?_;refine go ?_;refine bz eF (xs:=p) (next:=λ_ _ x (vx:Value) hx=>?_);refine go ?_;refine ax (NH (a:=x) (b:=t) (va:=vx) (vb:=vt)) (next:=λ_ _=>?_);refine go ?_;refine aA rfl (λh2=>?_) (λh2=>?_)
  ·refine go ?_;refine aQ (m+1,b) (by show b - (m+1)<b - a;omega) ⟨by show m+1<=b;omega,hb,λj u hj hu=>?_,hhi⟩;by_cases e:j=m
   ·subst e;rw[hx]at hu;cases hu;exact h2
   ·exact Fv (hs j m u x (by have:j<m+1:=hj;omega) hu hx) h2
  ·refine go ?_;refine aQ (a,m) (by show m - a<b - a;omega) ⟨by show a<=m;omega,by show m<=_;omega,hlo,λj u hj hu=>?_⟩;by_cases e:j=m
   ·subst e;rw[hx]at hu;cases hu;exact h2
   ·exact λh3=>h2 (Fv (hs m j x u (by have:m<=j:=hj;omega) hx hu) h3)
 have hba:b=a:=by omega
 subst hba;refine go ?_;first|with_reducible refine aN (λh2=>?_) (λh2=>?_)|with_reducible refine aM (λh2=>?_) (λh2=>?_)|with_reducible refine aL (λh2=>?_) (λh2=>?_)
 ·have hn:p[b]? =none:=iD (by omega);refine go ?_;exact ae (b,false) (hv:=rfl) (hp:=⟨by show b<=_;omega,hlo,hhi,by show false=true↔∃g,p[b]? =some g/\_;rw[hn];simp⟩)
 refine go ?_;refine bz eF (xs:=p) (next:=λ_ _ x (vx:Value) hx=>?_);refine go ?_;refine ax (NH (a:=x) (b:=t) (va:=vx) (vb:=vt)) (next:=λ_ _=>?_);refine go ?_;refine ae (b,decide (gq x t=0)) (hv:=rfl) (hp:=⟨by show b<=_;omega,hlo,hhi,?_⟩);show decide (gq x t=0)=true↔∃g,p[b]? =some g/\gq g t=0;rw[hx,y8];exact⟨λh=>⟨x,rfl,h⟩,λ⟨g,h1,h2⟩=>by cases h1;exact h2⟩
theorem Ob.find{p:List Clue}{c:Int}{n:Nat}{y:Nat×Bool}(hs:Jr p)(h:Ob p ⟨c,(n:Int),[]⟩ y):(y.2=true->∃g,p[y.1]? =some g/\oD p c (n:Int)=some g.values)/\(y.2=false->oD p c (n:Int)=none):=by
 have hz:∀g:Clue,gq g ⟨c,(n:Int),[]⟩=0↔g.aG=c/\g.at_=(n:Int):=λg=>by
  unfold gq;simp only[si];have h1:=uC.zero g.aG c;have h2:=uC.zero g.at_ (n:Int);by_cases e:gB g.aG c=0
  ·rw[if_neg (by simpa using e)];by_cases e2:gB g.at_ (n:Int)=0
   ·rw[if_neg (by simpa using e2)];exact⟨λ_=>⟨h1.1 e,h2.1 e2⟩,λ_=>rfl⟩
   ·rw[if_pos e2];exact⟨λh=>absurd h e2,λh=>absurd (h2.2 h.2) e2⟩
  ·rw[if_pos e];exact⟨λh=>absurd h e,λh=>absurd (h1.2 h.1) e⟩
 have ah1:∀(i j:Nat) a b,p[i]? =some a->p[j]? =some b->gq a ⟨c,(n:Int),[]⟩=0->gq b ⟨c,(n:Int),[]⟩=0->i=j:=by
  intro i j a b ha hb h1 h2;have e1:=(hz a).1 h1;have e2:=(hz b).1 h2;rcases Nat.lt_trichotomy i j with hl|hl|hl
  ·have:=tQ.1 (hs i j a b hl ha hb);omega
  ·exact hl
  ·have:=tQ.1 (hs j i b a hl hb ha);omega
 constructor
 ·intro hy;obtain⟨g,hg,h0⟩:=h.is.1 hy;refine⟨g,hg,?_⟩;unfold oD;cases hf:p.find? (λg=>decide (g.aG=c/\g.at_=(n:Int)))with
  |none=>
   have:=Ox.1 hf g (bG hg);exact absurd (dZ ((hz g).1 h0)) this
  |some g2=>
   have h2':=List.find?_some hf;have h2:g2.aG=c/\g2.at_=(n:Int):=gY h2';obtain⟨j,hj⟩:=lH (Oy hf);have:=ah1 _ _ _ _ hg hj h0 ((hz g2).2 h2);subst this;rw[hg]at hj;cases hj;rfl
 ·intro hy;unfold oD;rw[show p.find? (λg=>decide (g.aG=c/\g.at_=(n:Int)))=none from Ox.2 λg hg hd=>by
   have hd:=gY hd;have h0:=(hz g).2 hd;obtain⟨j,hj⟩:=lH hg;by_cases hlt:j<y.1
   ·have:=h.lo j g hlt hj;omega
   ·by_cases e:j=y.1
    ·subst e;have:=h.is.2 ⟨g,hj,h0⟩;rw[hy]at this;cases this
    ·have hyl:y.1<p.length:=by have:=(bO.1 hj).1;omega
     have hq:p[y.1]? =some p[y.1]:=cB hyl;have h1:=hs y.1 j _ g (by omega) hq hj;have h2:=h.hi y.1 _ (bJ _) hq;apply h2;have e1:=tQ.1 h1;rw[tQ];show p[y.1].aG<c\/p[y.1].aG=c/\p[y.1].at_<(n:Int);omega]
  rfl
theorem VF{k:bS}{r:aU}{fi:Nat}{vh vs vr vc vu gh gc vn vl vp v1 v2:Value}:
 bi Tryz.prog (.func 48) [.agg ⟨mG k vh vs vr vc vu gh gc vn vl⟩,.agg ⟨[vp]⟩,.agg ⟨iT r v1 v2⟩,.int .i64 (fi:Int)] [] [] [] (λy:Nat×Nat×Nat×Nat=>.func (.func 79) #[] #[ptr' y.1,ptr' y.2.1,ptr' y.2.2.1,ptr' y.2.2.2]) (λ_=>[])
  (λy=>[eG y.1 0 (mG k vh vs vr vc vu gh gc vn vl),eG y.2.1 0 [.int .i64 (fi:Int)],eG y.2.2.1 0 (iT r v1 v2),eG y.2.2.2 0 [vp]]) (λ_=>True):=by
 refine aK _ (aP 48) λB w0=>?_;refine go ?_;intro b4 b5 b6 b7;refine go ?_;refine bD (eO (b:=b4)) (h:=?_);refine bD (eO (b:=b5)) (h:=?_);refine bD (eO (b:=b6)) (h:=?_);refine bD (eO (b:=b7)) (h:=?_);exact ae (b4,b7,b6,b5) (hv:=rfl) (hp:=trivial)
theorem VG{B:List Nat}{w0:Wd}{kl:List OA}{F:List aH}{Q:IH->Prop}(f:aH)(hf:∀w,f.p w)(h:R Q B w0 kl (f::F)):R Q B w0 kl F:=λw s=>
 h w ⟨s.agree,s.le,s.fH,s.own,λg hg=>by
  rcases dF.1 hg with rfl|hg
  ·exact hf w
  ·exact s.facts g hg⟩
def yR(p:List Clue)(r:aU)(ls:List (List Int))(j:Nat):List (Nat×List Int×List Int):=((ls.drop j).zipIdx (0+(ls.take j).length)).filterMap (lu p r)
theorem VH{p:List Clue}{r:aU}{ls:List (List Int)}(j:Nat):jw p r ls=jw p r (ls.take j)++yR p r ls j:=by
 unfold jw yR;rw[<- Gn,<- AU,rq]
theorem VI{bk bf br bp:Nat}{k:bS}{p:List Clue}{r:aU}{fi:Nat}{ls:List (List Int)}{vh vs vr vc vu gh gc vn vl vp v1 v2:Value}(hS:qg k)(hl:p.length<4611686018427387904)(hs:Jr p)(hls:k.lists[fi]? =some ls):
 Mj Tryz.prog Fx Aa (.func 79) [] [ptr' bk,ptr' bf,ptr' br,ptr' bp] [eG bk 0 (mG k vh vs vr vc vu gh gc vn vl),eG bf 0 [.int .i64 (fi:Int)],eG br 0 (iT r v1 v2),eG bp 0 [vp],ah (aj (aj aa)) vl k.lists,ah eF vp p] (λxs=>xs.map nV=jw p r ls):=by
 intro S inv ok step s0 uH y1 y2 F' h0 hok hy;rw[dD,dD,dD,dD,dD,dD,bX];refine aK _ (aP 79) λB w0=>?_;have hll:=(hS.lists.2 ls (bG hls)).1;have hfi:=(bO.1 hls).1;refine go ?_;refine bz (aj (aj aa)) (xs:=k.lists) (next:=λ_ _ ls2 (vls:Value) VJ=>?_);rw[hls]at VJ;obtain rfl:ls=ls2:=Option.some.inj VJ;refine go ?_;refine aZ (λy:Nat×List LA×S=>ls.length - y.1) (λy=>[(17,.int .i64 (y.1:Int))]) (λy=>inv y.2.2) (λ_=>[]) (λy=>y.1<=ls.length/\ok y.2.1 y.2.2/\y.2.1.map nV=jw p r (ls.take y.1)/\∀rest,gT step s0 (y.2.1++rest)=gT step y.2.2 rest) (0,[],s0) ⟨cz _,h0,rfl,λ_=>rfl⟩ (body:=?_);rintro⟨j,fI,s⟩ ⟨hj,hos,yS,hrun⟩;dsimp only at hj hos yS hrun⊢;refine go ?_;refine aA rfl (λh1=>?_) (λh1=>?_)
 rotate_left
 ·have jO:j=ls.length:=by omega
  subst jO;rw[bK]at yS;have hr2:=hrun [];rw[gy]at hr2;refine go ?_;exact ae fI (hv:=rfl) (hp:=yS) (hk:=by rw[hr2];exact aI.all _)
 refine go ?_;refine bz (aj aa) (xs:=ls) (next:=λ_ _ ps (vps:Value) hps=>?_);have CL:=ac4 (p:=p) (r:=r) hps;refine aS (E:=aa) (v:=vps) (xs:=ps) (by simp) λap cp ep=>?_;subst ep;refine go ?_;intro b8;refine go ?_;refine aA rfl (λh2=>?_) (λh2=>?_)
 ·have hlr:lu p r (ps,j)=(oD p r.aG (j:Int)).map λv=>(j,ps,v):=by unfold lu;rw[if_neg (by omega)]
  refine go ?_;refine ax (ah0 (p:=p) (t:=⟨r.aG,(j:Int),[]⟩) (vt:=.slice none 0 0) hl hs) (next:=λy hy2=>?_);have vK:=hy2.find hs;obtain⟨n,fd⟩:=y;dsimp only at vK⊢;rw[bX];cases fd with
  |false=>
   have hnn:=vK.2 rfl;rw[hlr,hnn]at CL;refine go ?_;exact aQ (j+1,fI,s) (by show ls.length - (j+1)<ls.length - j;omega) ⟨by show j+1<=_;omega,hos,by show fI.map nV=_;rw[yS,CL];exact(gy _).symm,hrun⟩
  |true=>
   obtain⟨g,hg,hfg⟩:=vK.1 rfl;have Qc:=(bO.1 hg).1;rw[hlr,hfg]at CL;refine go ?_;refine ab2 eF 3 rfl hg λb o f cc yc ec=>?_;subst ec;rw[show eF.fs g yc=[ah aa yc g.values]from rfl,dD,bX,show eF.pat g yc=[.int .i64 g.aG,.int .i64 g.at_,yc]from rfl];refine go ?_;refine(QS (b:=b) (o:=o+n*3) (j:=2) (cs:=[.int .i64 g.aG,.int .i64 g.at_,yc]) (v:=yc) rfl rfl rfl (cZ ..) rfl).h ?_;refine aS (E:=aa) (v:=yc) (xs:=g.values) (by simp) λaq cq eq=>?_;subst eq;generalize hxd:((j,(ps,Value.slice ap ps.length cp),(g.values,Value.slice aq g.values.length cq)):LA)=x;have hnx:jw p r (ls.take (j+1))=jw p r (ls.take j)++[nV x]:=by rw[CL,<- hxd];rfl
   have hX:(fI++x::yD (yR p r ls (j+1))).map nV=jw p r ls:=by
    rw[dW,gQ,TB,yS];conv=>rhs;rw[VH (j+1),hnx,fE]
    rfl
   have nX:=hy _ s _ _ hos hX;rw[show Fx x=[.int .i64 (j:Int),.agg ⟨[.slice ap ps.length cp,.slice aq g.values.length cq]⟩]by rw[<- hxd];rfl,show Aa x=[ah aa (.slice ap ps.length cp) ps,ah aa (.slice aq g.values.length cq) g.values]by rw[<- hxd];rfl]at nX;rw[dD,dD,bX]at nX;refine go ?_;refine ax nX (next:=λ_ _=>?_);cases hst:(step s x).2 with
   |true=>
    have hs1:step s x=((step s x).1,true):=Prod.ext rfl hst;refine go ?_;refine aQ (j+1,fI++[x],(step s x).1) (by show ls.length - (j+1)<ls.length - j;omega) ⟨by show j+1<=_;omega,hok _ s _ _ hos hX hst,?_,λrest=>?_⟩
    ·show(fI++[x]).map nV=_;rw[dW,oK,yS];exact hnx.symm
    ·show gT step s0 (fI++[x]++rest)=_;rw[fE,hrun];show gT step s (x::rest)=_;rw[gT,hs1]
   |false=>
    have hs1:step s x=((step s x).1,false):=Prod.ext rfl hst;have hr:=hrun (x::yD (yR p r ls (j+1)));rw[gT,hs1]at hr;dsimp only at hr;refine go ?_;exact ae (fI++x::yD (yR p r ls (j+1))) (hv:=rfl) (hp:=hX) (hk:=by rw[hr];first|exact aI.all _|exact aI.self _ _)
 ·have hlr:lu p r (ps,j)=some (j,ps,[]):=by unfold lu;rw[if_pos (by omega)]
  rw[hlr]at CL;refine VG (ah aa (.slice none 0 0) ([]:List Int)) (λw=>.inl ⟨rfl,none,0,rfl,trivial⟩) ?_;generalize hxd:((j,(ps,Value.slice ap ps.length cp),(([]:List Int),Value.slice none 0 0)):LA)=x;have hnx:jw p r (ls.take (j+1))=jw p r (ls.take j)++[nV x]:=by rw[CL,<- hxd];rfl
  have hX:(fI++x::yD (yR p r ls (j+1))).map nV=jw p r ls:=by
   rw[dW,gQ,TB,yS];conv=>rhs;rw[VH (j+1),hnx,fE]
   rfl
  have nX:=hy _ s _ _ hos hX;rw[show Fx x=[.int .i64 (j:Int),.agg ⟨[.slice ap ps.length cp,.slice none 0 0]⟩]by rw[<- hxd];rfl,show Aa x=[ah aa (.slice ap ps.length cp) ps,ah aa (.slice none 0 0) []]by rw[<- hxd];rfl]at nX;rw[dD,dD,bX]at nX;refine go ?_;refine ax nX (next:=λ_ _=>?_);cases hst:(step s x).2 with
  |true=>
   have hs1:step s x=((step s x).1,true):=Prod.ext rfl hst;refine go ?_;refine aQ (j+1,fI++[x],(step s x).1) (by show ls.length - (j+1)<ls.length - j;omega) ⟨by show j+1<=_;omega,hok _ s _ _ hos hX hst,?_,λrest=>?_⟩
   ·show(fI++[x]).map nV=_;rw[dW,oK,yS];exact hnx.symm
   ·show gT step s0 (fI++[x]++rest)=_;rw[fE,hrun];show gT step s (x::rest)=_;rw[gT,hs1]
  |false=>
   have hs1:step s x=((step s x).1,false):=Prod.ext rfl hst;have hr:=hrun (x::yD (yR p r ls (j+1)));rw[gT,hs1]at hr;dsimp only at hr;refine go ?_;exact ae (fI++x::yD (yR p r ls (j+1))) (hv:=rfl) (hp:=hX) (hk:=by rw[hr];first|exact aI.all _|exact aI.self _ _)
theorem F6{P:Program}{Y Z:Type}{fn:Fn}{args cap:List Value}{kl:List OA}{F:List aH}{val:Y->Value}{VK:Z->Value}{kl':Y->List OA}{dM:Z->List OA}{fs:Y->List aH}{Jp:Z->List aH}{pr:Y->Prop}{VL:Z->Prop}(h:bi P fn args cap kl F val kl' fs pr)(g:Y->Z)
 (hv:∀y,pr y->val y=VK (g y)) (hk:∀y,kl' y=dM (g y)) (hf:∀y (w:Wd),pr y->(∀f∈F,f.p w)->(∀f∈fs y,f.p w)->∀f∈Jp (g y),f.p w) (hp:∀y,pr y->VL (g y)):bi P fn args cap kl F VK dM Jp VL:=λB w s=>by
 refine .qF _ (h B w s) ?_;rintro r pm h' ⟨e,w',y,e1,st,er,hp'⟩;exact⟨e,w',g y,e1,⟨st.agree,st.le,st.fH,hk y▸st.own,hf y w' hp' (λf hf=>f.mono st.le (s.facts f hf)) st.facts⟩,er.trans (congrArg iH.ok (hv y hp')),hp y hp'⟩
abbrev CO(fn:Fn)(cap:List Value)(F:List aH)(r:aU)(cells vals:List Int):Prop:=∀vc vv v1 v2:Value,
 bi Tryz.prog fn [.agg ⟨iT r v1 v2⟩,.agg ⟨[vc,vv]⟩] cap [] (ah aa vc cells::ah aa vv vals::F) (λvr:Value=>CK (ko r cells vals).kind (ko r cells vals).set (ko r cells vals).other (ko r cells vals).lo (ko r cells vals).hi vr) (λ_=>[]) (λvr=>[ah aa vr (ko r cells vals).runs]) (λ_=>True)
def F7(r:aU)(vals:List Int):Prop:=(r.kind=2\/r.kind=3->r.bZ≠kH->0<vals.length)/\(r.kind=11->0<vals.length/\∀x∈vals,0<=x/\x<16)
theorem Js(w:Wd):(ah aa (.slice none 0 0) ([]:List Int)).p w:=.inl ⟨rfl,none,0,rfl,trivial⟩
theorem AA{b:Nat}{F:List aH}{r:aU}{kd:Int}{cells vals:List Int}(hk:TA r.kind=kd)(hn:r.kind≠2/\r.kind≠3/\r.kind≠5/\r.kind≠11)(hF:eG b 0 [.int .i64 kd]∈F):CO (.func 119) [ptr' b] F r cells vals:=by
 intro vc vv v1 v2;have e:ko r cells vals=⟨kd,cells,r.set,r.other,r.n,0,[],0,0⟩:=by simp[ko,hn,hk]
 rw[e];exact F6 ((ahU (b:=b) (k:=kd) (r:=r) (vc:=vc) (vv:=vv) (v1:=v1) (v2:=v2)).facts (λf hf=>by rw[bH.1 hf];exact cO _ (cO _ hF))) (λ_=>Value.slice none 0 0) (λ_ _=>rfl) (λ_=>rfl) (λ_ w _ _ _ f hf=>by rw[bH.1 hf];exact Js w) (λ_ _=>trivial)
theorem ah4{F:List aH}{r:aU}{cells vals:List Int}(hk:r.kind=2)(hp:F7 r vals):CO (.func 75) [] F r cells vals:=by
 intro vc vv v1 v2;have e:ko r cells vals=⟨2,cells,r.set,0,(nU r vals cells.length).1,(nU r vals cells.length).2,[],0,0⟩:=by simp[ko,hk]
 rw[e];exact F6 ((ahV (r:=r) (cells:=cells) (vals:=vals) (vc:=vc) (vv:=vv) (v1:=v1) (v2:=v2) (hp.1 (.inl hk))).facts (λf hf=>by simp only[dF,Gh,or_false]at hf⊢;rcases hf with rfl|rfl<;>simp)) (λ_=>Value.slice none 0 0) (λ_ _=>rfl) (λ_=>rfl) (λ_ w _ _ _ f hf=>by rw[bH.1 hf];exact Js w) (λ_ _=>trivial)
theorem ah5{F:List aH}{r:aU}{cells vals:List Int}(hk:r.kind=3)(hp:F7 r vals):CO (.func 76) [] F r cells vals:=by
 intro vc vv v1 v2;have e:ko r cells vals=⟨3,cells,0,0,(nU r vals 65536).1,(nU r vals 65536).2,[],0,0⟩:=by simp[ko,hk]
 rw[e];exact F6 ((ahW (r:=r) (vals:=vals) (vc:=vc) (vv:=vv) (v1:=v1) (v2:=v2) (hp.1 (.inr hk))).facts (λf hf=>by rw[bH.1 hf];simp)) (λ_=>Value.slice none 0 0) (λ_ _=>rfl) (λ_=>rfl) (λ_ w _ _ _ f hf=>by rw[bH.1 hf];exact Js w) (λ_ _=>trivial)
theorem ah6{F:List aH}{r:aU}{cells vals:List Int}(hk:r.kind=5):CO (.func 77) [] F r cells vals:=by
 intro vc vv v1 v2;have e:ko r cells vals=⟨5,cells,r.set,0,0,0,vals,0,0⟩:=by simp[ko,hk]
 rw[e];exact F6 ((ahX (r:=r) (vals:=vals) (vc:=vc) (vv:=vv) (v1:=v1) (v2:=v2)).facts (λf hf=>by rw[bH.1 hf];simp)) (λ_=>vv) (λ_ _=>rfl) (λ_=>rfl) (λ_ w _ hF _ f hf=>by rw[bH.1 hf];exact hF _ (by simp)) (λ_ _=>trivial)
theorem ah7{F:List aH}{r:aU}{cells vals:List Int}(hk:r.kind=11)(hp:F7 r vals):CO (.func 78) [] F r cells vals:=by
 intro vc vv v1 v2;have e:ko r cells vals=⟨2,cells,((1<<<(vals.getD 0 0).toNat:Nat):Int),0,1,1,[],0,0⟩:=by simp[ko,hk]
 rw[e];exact F6 ((ahY (r:=r) (vals:=vals) (vc:=vc) (vv:=vv) (v1:=v1) (v2:=v2) (hp.2 hk).1 (hp.2 hk).2).facts (λf hf=>by rw[bH.1 hf];simp)) (λ_=>Value.slice none 0 0) (λ_ _=>rfl) (λ_=>rfl) (λ_ w _ _ _ f hf=>by rw[bH.1 hf];exact Js w) (λ_ _=>trivial)
structure ah8(y:F5)(r:aU)(fm:Int)(fn:Fn)(cap:List Value):Prop where
 at_:ja (jI (Oa y) (r.kind.toNat*3)) 3=some [.int .i64 fm,.int .i64 (iU r:Int),.func fn #[] ⟨cap⟩]
 qa:(if fm<0 then r.family else fm)=gu r
 ok:∀cells vals,F7 r vals->CO fn cap (VE y) r cells vals
theorem ah9(y:F5){r:aU}(h:1<=r.kind/\r.kind<=11):∃fm fn cap,ah8 y r fm fn cap:=by
 have hk:r.kind=1\/r.kind=2\/r.kind=3\/r.kind=4\/r.kind=5\/r.kind=6\/r.kind=7\/r.kind=8\/r.kind=9\/r.kind=10\/r.kind=11:=by omega
 rcases hk with e|e|e|e|e|e|e|e|e|e|e
 ·exact⟨-1,.func 119,[ptr' y.b1],by rw[e,iU,if_pos (.inl e)];rfl,by unfold gu;rw[if_pos (by omega),if_neg (by omega),if_neg (by omega),if_neg (by omega)],λcells vals hp=>AA (kd:=1) (by rw[e];rfl) (by omega) (by simp)⟩
 ·exact⟨-1,.func 75,[],by rw[e,iU,if_neg (by omega)];rfl,by unfold gu;rw[if_pos (by omega),if_neg (by omega),if_neg (by omega),if_neg (by omega)],λcells vals hp=>ah4 e hp⟩
 ·exact⟨-1,.func 76,[],by rw[e,iU,if_neg (by omega)];rfl,by unfold gu;rw[if_pos (by omega),if_neg (by omega),if_neg (by omega),if_neg (by omega)],λcells vals hp=>ah5 e hp⟩
 ·exact⟨-1,.func 119,[ptr' y.b4],by rw[e,iU,if_pos (.inr e)];rfl,by unfold gu;rw[if_pos (by omega),if_neg (by omega),if_neg (by omega),if_neg (by omega)],λcells vals hp=>AA (kd:=4) (by rw[e];rfl) (by omega) (by simp)⟩
 ·exact⟨-1,.func 77,[],by rw[e,iU,if_neg (by omega)];rfl,by unfold gu;rw[if_pos (by omega),if_neg (by omega),if_neg (by omega),if_neg (by omega)],λcells vals hp=>ah6 e⟩
 ·exact⟨6,.func 119,[ptr' y.b6],by rw[e,iU,if_neg (by omega)];rfl,by unfold gu;rw[if_neg (by omega),if_pos (by omega)],λcells vals hp=>AA (kd:=1) (by rw[e];rfl) (by omega) (by simp)⟩
 ·exact⟨6,.func 119,[ptr' y.b7],by rw[e,iU,if_neg (by omega)];rfl,by unfold gu;rw[if_neg (by omega),if_pos (by omega)],λcells vals hp=>AA (kd:=6) (by rw[e];rfl) (by omega) (by simp)⟩
 ·exact⟨6,.func 119,[ptr' y.b8],by rw[e,iU,if_neg (by omega)];rfl,by unfold gu;rw[if_neg (by omega),if_pos (by omega)],λcells vals hp=>AA (kd:=7) (by rw[e];rfl) (by omega) (by simp)⟩
 ·exact⟨7,.func 119,[ptr' y.b9],by rw[e,iU,if_neg (by omega)];rfl,by unfold gu;rw[if_neg (by omega),if_neg (by omega),if_pos (by omega)],λcells vals hp=>AA (kd:=8) (by rw[e];rfl) (by omega) (by simp)⟩
 ·exact⟨7,.func 119,[ptr' y.b10],by rw[e,iU,if_neg (by omega)];rfl,by unfold gu;rw[if_neg (by omega),if_neg (by omega),if_pos (by omega)],λcells vals hp=>AA (kd:=9) (by rw[e];rfl) (by omega) (by simp)⟩
 ·exact⟨0,.func 78,[],by rw[e,iU,if_neg (by omega)];rfl,by unfold gu;rw[if_neg (by omega),if_neg (by omega),if_neg (by omega),if_pos (by omega)],λcells vals hp=>ah7 e hp⟩
structure F8 where
 ok:Bool
 e:Int
 vv:Value
 vc:Value
abbrev aia:List Value:=[.int .i64 0,.int .i64 0,.slice none 0 0,.slice none 0 0,.slice none 0 0]
abbrev CP(k:bS)(p:List Clue)(vn:Value)(y:F8):Value:=.tuple ⟨[.agg ⟨cond y.ok (qU (uf k p) y.vv vn y.vc) aia⟩,.int .i64 y.e]⟩
abbrev CQ(k:bS)(p:List Clue)(y:F8):List aH:=cond y.ok [ah aa y.vv (wQ k),ah gX y.vc (jg k p)] []
structure F9(k:bS)(p:List Clue)(y:F8):Prop where
 nk:¬fT k->y.e=180
 np:fT k->¬iK k p->y.e=190
 nl:fT k->iK k p->4096<(jg k p).length->y.e=2
 ok:fT k->iK k p->(jg k p).length<=4096->y.e=0
 eq:y.ok=true↔y.e=0
theorem VM{k:bS}{p:List Clue}{r:aU}{ls:List (List Int)}(hf:RF k r)(hQ:iK k p)(hs:k.decl.symbols.length<=16){y:Nat×List Int×List Int}(hy:y∈jw p r ls):F7 r y.2.2:=by
 have hb:=hf.by0;rcases hf.vals hQ hy with h|⟨h0,c,_,_,h|h|h⟩
 ·refine⟨λ_ hn=>absurd (hb.2 h.1) hn,λhk=>?_⟩;have:=hf.ncl (.inr hk);omega
 ·exact⟨λhk=>by omega,λ_=>⟨by omega,λx hx=>by have:=h.2.2.2 x hx;omega⟩⟩
 ·exact⟨λ_ _=>by omega,λhk=>by omega⟩
 ·exact⟨λhk=>by omega,λhk=>by omega⟩
def oH(r:aU)(i:Nat)(s:List iG)(x:LA):List iG:=if iU r<=x.2.1.1.length then s++[jf r i (nV x)]else s
theorem AB(r:aU)(i:Nat):∀(xs:List LA) (s:List iG),jr (λs x=>(oH r i s x,Out.normal)) s xs=(s++((xs.map nV).filter λx=>decide (iU r<=x.2.1.length)).map (jf r i),Out.normal)
 |[],s=>by simp[jr]
 |x::xs,s=>by
  rw[jr];dsimp only;rw[AB r i xs];unfold oH;rw[gQ,JB];by_cases h:iU r<=x.2.1.1.length
  ·rw[if_pos h,if_pos (by exact dZ h),gQ,fE];rfl
  ·rw[if_neg h,if_neg (by rw[y8];exact h)]
set_option maxRecDepth 100000 in
theorem Jt{k:bS}{p:List Clue}{vh vs vr vc vu gh gc vn vl vp:Value}(hS:qg k)(hP:Au p):
 bi Tryz.prog (.func 21) [.agg ⟨mG k vh vs vr vc vu gh gc vn vl⟩,.agg ⟨[vp]⟩] [] [] (ah eF vp p::nI k vh vs vr vc vu gh gc vn vl []) (CP k p vn) (λ_=>[]) (CQ k p) (F9 k p):=by
 refine EU _ (aP 21) λB w0=>?_;refine aS (E:=fF) (v:=vs) (xs:=k.decl.symbols) (by simp) λlV cs1 es1=>?_;subst es1;refine aS (E:=aY) (v:=vu) (xs:=k.decl.rules) (by simp) λau cu eu=>?_;subst eu;refine aS (E:=aa) (v:=gc) (xs:=k.grid.cells) (by simp) λag cg eg=>?_;subst eg;refine aS (E:=aj aa) (v:=vn) (xs:=k.bn) (by simp) λan cn en=>?_;subst en;refine go ?_;intro b2 b3 b4;refine go ?_;refine ax (age (k:=k) (p:=p) (vh:=vh) (vs:=.slice lV k.decl.symbols.length cs1) (vr:=vr) (vc:=vc) (vu:=.slice au k.decl.rules.length cu) (gh:=gh) (gc:=.slice ag k.grid.cells.length cg) (vn:=.slice an k.bn.length cn) (vl:=vl) (vp:=vp) hS hP) (next:=λe he=>?_);refine go ?_;refine aA rfl (λh1=>?_) (λh1=>?_)
 ·have VN:fT k->iK k p->False:=λa b=>h1 (he.2.2 a b);refine go ?_;exact BM ⟨false,e,.slice none 0 0,.slice none 0 0⟩ (hv:=rfl) (hp:=⟨he.1,he.2.1,λa b=>(VN a b).elim,λa b=>(VN a b).elim,⟨λh=>(by cases h),λh=>absurd h h1⟩⟩)
 have hz:e=0:=iO.1 h1;subst hz;have hK:fT k:=Classical.byContradiction λh=>by have:=he.1 h;omega
 have hQ:iK k p:=Classical.byContradiction λh=>by have:=he.2.1 hK h;omega
 have hsl:=hK.typ.lim.s1;have hrl:=hK.typ.lim.u;have hgl:=hK.bU.len;rw[<- hK.grid]at hgl;refine go ?_;refine gI aa ?_;refine aZ (λy:Nat×Value=>k.decl.symbols.length - y.1) (λy=>[(38,.int .i64 (y.1:Int))]) (λy=>[pt b4 (.cells (qU (uf k p) y.2 (.slice an k.bn.length cn) (.slice none 0 0))),ap aa y.2 ((k.decl.symbols.take y.1).map (·.value))]) (λ_=>[]) (λy=>y.1<=k.decl.symbols.length) (0,.slice none 0 0) (cz _) (hk:=by repeat (first|exact aI.nil|(apply aI.cons;(focus (repeat (first|exact ay.here|apply ay.there)))))) (body:=?_);rintro⟨j,vv⟩ hj;dsimp only at hj⊢;have hjl:((k.decl.symbols.take j).map (·.value)).length=j:=by rw[bR,gM];omega
 refine go ?_;refine aA rfl (λh2=>?_) (λh2=>?_)
 ·refine go ?_;refine bz fF (xs:=k.decl.symbols) (next:=λ_ _ s (_:Unit) hs=>?_);have htk:(k.decl.symbols.take (j+1)).map (·.value)=(k.decl.symbols.take j).map (·.value)++[s.value]:=by rw[bY hs,dW,oK]
  refine go ?_;intro b7;refine go ?_;intro b46;refine go ?_;refine fC (xs:=(k.decl.symbols.take j).map (·.value)) aa s.value () (by omega) (next:=λad=>?_);rw[<- htk];refine go ?_;exact aQ (j+1,.slice ad (((k.decl.symbols.take j).map (·.value)).length+1) (((k.decl.symbols.take j).map (·.value)).length+1)) (by show k.decl.symbols.length - (j+1)<k.decl.symbols.length - j;omega) (by show j+1<=_;omega)
 have jO:j=k.decl.symbols.length:=by omega
 subst jO;rw[bK,show k.decl.symbols.map (·.value)=wQ k from rfl];refine bD (gH (E:=aa) (v:=vv) (xs:=wQ k)) (h:=?_);refine go ?_;refine ax ahZ (next:=λy _=>?_);refine go ?_;intro b8;refine bD (eO (b:=b8)) (h:=?_);have hlf:∀l∈k.lists,l.length<=2048:=by rw[hK.lists];exact ade hK.bU (λr hr=>(hK.typ.Ao r hr).1.2)
 have hpl:p.length<4611686018427387904:=by have:=hQ.len;omega
 have su:Jr p:=λi j a b hij ha hb=>Ab hQ (j - (i+1)) i a b ha (by rw[show i+1+(j - (i+1))=j by omega];exact hb);refine go ?_;refine gI gX ?_;refine abk ?_;refine abl (λy=>y.2.2.map LM) (λy:Nat×Value×List Nat=>k.decl.rules.length - y.1) (λy=>[(55,.int .i64 (y.1:Int))]) (λy=>[BN y.2.2,pt b2 (.cells (mG k vh (.slice lV k.decl.symbols.length cs1) vr vc (.slice au k.decl.rules.length cu) gh (.slice ag k.grid.cells.length cg) (.slice an k.bn.length cn) vl)),pt b3 (.cells [vp]),pt b4 (.cells (qU (uf k p) vv (.slice an k.bn.length cn) y.2.1)),ap gX y.2.1 (lC k p y.1)]) (λ_=>[]) (λy=>y.1<=k.decl.rules.length) (0,.slice none 0 0,[]) (cz _) (hk:=by repeat (first|exact aI.nil|(apply aI.cons;(focus (repeat (first|exact ay.here|apply ay.there)))))) (body:=?_);rintro⟨j,FT,rs⟩ hj;dsimp only at hj⊢;have hcl:=TH (p:=p) hlf j hj;refine go ?_;refine aA rfl (λh3=>?_) (λh3=>?_)
 ·refine go ?_;refine bz aY (xs:=k.decl.rules) (next:=λ_ _ r (w:Value×Value) hr=>?_);have hrm:=bG hr;have hf:=hK.rf hrm;have hkd:=hf.kd;obtain⟨ls,hls,_⟩:=hf.list hK;obtain⟨fm,fn,cap,hM⟩:=ah9 y hf.kd;have Ju:=hM.qa;have hf0:0<=gu r:=by
   have:=hf.f0;unfold gu;repeat' split
   all_goals omega
  refine go ?_;intro b9 b10;refine go ?_;refine(Lv (b:=b8) (o:=0) (j:=r.kind.toNat*3) (m:=3) (cs:=Oa y) (c:=[.int .i64 fm,.int .i64 (iU r:Int),.func fn #[] ⟨cap⟩]) rfl rfl rfl (by repeat (first|exact cZ .. |apply cO)) hM.at_).h ?_;refine go ?_;intro b11;refine go ?_;refine aA rfl (λh4=>?_) (λh4=>?_)
  ·rw[if_pos h4]at Ju;have hfi:(((gu r).toNat:Nat):Int)=r.family:=by rw[Ju];exact Int.toNat_of_nonneg hf0
   have hL:=VF (k:=k) (r:=r) (fi:=(gu r).toNat) (vh:=vh) (vs:=.slice lV k.decl.symbols.length cs1) (vr:=vr) (vc:=vc) (vu:=.slice au k.decl.rules.length cu) (gh:=gh) (gc:=.slice ag k.grid.cells.length cg) (vn:=.slice an k.bn.length cn) (vl:=vl) (vp:=vp) (v1:=w.1) (v2:=w.2);rw[hfi]at hL;refine go ?_;refine bD (eO (b:=b9)) (h:=?_);refine bD (eO (b:=b10)) (h:=?_);refine bD (eO (b:=b11)) (h:=?_);refine ax hL (next:=λyl _=>?_);have hL1:=VI (bk:=yl.1) (bf:=yl.2.1) (br:=yl.2.2.1) (bp:=yl.2.2.2) (k:=k) (p:=p) (r:=r) (fi:=(gu r).toNat) (ls:=ls) (vh:=vh) (vs:=.slice lV k.decl.symbols.length cs1) (vr:=vr) (vc:=vc) (vu:=.slice au k.decl.rules.length cu) (gh:=gh) (gc:=.slice ag k.grid.cells.length cg) (vn:=.slice an k.bn.length cn) (vl:=vl) (vp:=vp) (v1:=w.1) (v2:=w.2) hS hpl su hls;rw[hfi]at hL1;refine go ?_;refine uF (λv:Value=>[pt b4 (.cells (qU (uf k p) vv (.slice an k.bn.length cn) v)),ap gX v (lC k p j)]) FT (h:=?_);refine SA (Z:=Nat) (λ(s:List iG) (x:LA)=>(oH r j s x,Out.normal)) (λs=>[BL λv:Value=>[pt b4 (.cells (qU (uf k p) vv (.slice an k.bn.length cn) v)),ap gX v s]]) (λvs s=>s=lC k p j++((vs.map nV).filter λx=>decide (iU r<=x.2.1.length)).map (jf r j)) (lC k p j) _ (λx z=>[pt z (.cells [x.2.1.2,x.2.2.2])]) (by simp) (λvs s x rest hs _ _=>by
    have:=AB r j (vs++[x]) (lC k p j);have h2:=AB r j vs (lC k p j);rw[hs];show oH r j _ x=_;unfold oH;rw[dW,AQ,dW,oK];by_cases h:iU r<=x.2.1.1.length
    ·rw[if_pos h,List.filter_cons_of_pos (by exact dZ h)];simp
    ·rw[if_neg h,List.filter_cons_of_neg (by rw[y8];exact h)];simp) hL1 (by intro s x lo o B w0;dsimp only[Fx,Aa,List.cons_append,List.nil_append,List.zip_cons_cons,List.zip_nil_left,List.reverse_cons,List.reverse_nil];refine go ?_;intro b14;refine go ?_;exact zT b14 rfl) ?_ ?_ (λ_ _=>trivial)
   ·rintro vs s ⟨at_,⟨cells,wc⟩,⟨vals,wv⟩⟩ rest z lo L B w0 hs hX;have hx:(at_,cells,vals)∈jw p r ls:=by rw[<- hX];exact fo.2 ⟨(at_,(cells,wc),(vals,wv)),by simp,rfl⟩
    have hpre:=VM hf hQ hsl hx;have hml:s.length<=65536:=by
     have h1:=AV (λx:Nat×List Int×List Int=>decide (iU r<=x.2.1.length)) (vs.map nV);have h2:=congrArg List.length hX;have h3:=hlf _ (bG hls);have h4:=IQ (p:=p) (r:=r) (ls:=ls);rw[bR,fA]at h2;rw[bR]at h1;rw[hs,fA,bR];omega
    have hcc:(jf r j (at_,cells,vals)).cells=cells:=by unfold jf ko;dsimp only;(repeat' split)<;>rfl
    have hrr:(jf r j (at_,cells,vals)).runs=(ko r cells vals).runs:=rfl;dsimp only[Aa,List.cons_append,List.nil_append,List.reverse_cons,List.reverse_nil];refine aS (E:=aa) (v:=wc) (xs:=cells) (by simp) λak ck ek=>?_;subst ek;have hmk:=hM.ok cells vals hpre (.slice ak cells.length ck) wv w.1 w.2;refine x8 (h:=λv=>?_);refine go ?_;refine aA rfl (λh5=>?_) (λh5=>?_)
    ·have hadd:oH r j s (at_,(cells,.slice ak cells.length ck),(vals,wv))=s:=by unfold oH;rw[if_neg (by show¬iU r<=cells.length;omega)]
     rw[hadd];refine go ?_;refine uF (λv:Value=>[pt b4 (.cells (qU (uf k p) vv (.slice an k.bn.length cn) v)),ap gX v s]) v (h:=?_);exact uG () rfl trivial trivial
    have hadd:oH r j s (at_,(cells,.slice ak cells.length ck),(vals,wv))=s++[jf r j (at_,cells,vals)]:=by unfold oH;rw[if_pos (by show iU r<=cells.length;omega)];rfl
    rw[hadd];refine go ?_;refine ax hmk (next:=λvq _=>?_);refine go ?_;intro b15;refine go ?_;intro Nu;refine eX (ah aa (.slice ak cells.length ck) (jf r j (at_,cells,vals)).cells) (λw hw=>by rw[hcc];exact hw (ah aa (.slice ak cells.length ck) cells) (by simp)) ?_;refine eX (ah aa vq (jf r j (at_,cells,vals)).runs) (λw hw=>hw (ah aa vq (ko r cells vals).runs) (by simp)) ?_;refine fC (xs:=s) gX (jf r j (at_,cells,vals)) (.slice ak cells.length ck,vq) (by omega) (next:=λad=>?_);refine go ?_;refine uF (λv:Value=>[pt b4 (.cells (qU (uf k p) vv (.slice an k.bn.length cn) v)),ap gX v (s++[jf r j (at_,cells,vals)])]) _ (h:=?_);exact uG () rfl trivial trivial
   ·intro rr xs hX;rw[AB,hX];have hnew:lC k p j++((jw p r ls).filter λx=>decide (iU r<=x.2.1.length)).map (jf r j)=lC k p (j+1):=by
     rw[IP hr];unfold kW uN;rw[uI hls]
    rw[hnew];dsimp only[List.cons_append,List.nil_append];refine x8 (h:=λv=>?_);refine go ?_;refine Rf (rs:=rs) (r:=rr) (h:=?_);exact Ri (j+1,v,rr::rs) (by show k.decl.rules.length - (j+1)<k.decl.rules.length - j;omega) (by show j+1<=_;omega)
  ·rw[if_neg h4]at Ju;have hfi:(((gu r).toNat:Nat):Int)=fm:=by rw[Ju];exact Int.toNat_of_nonneg hf0
   have hL:=VF (k:=k) (r:=r) (fi:=(gu r).toNat) (vh:=vh) (vs:=.slice lV k.decl.symbols.length cs1) (vr:=vr) (vc:=vc) (vu:=.slice au k.decl.rules.length cu) (gh:=gh) (gc:=.slice ag k.grid.cells.length cg) (vn:=.slice an k.bn.length cn) (vl:=vl) (vp:=vp) (v1:=w.1) (v2:=w.2);rw[hfi]at hL;refine go ?_;refine bD (eO (b:=b9)) (h:=?_);refine bD (eO (b:=b10)) (h:=?_);refine bD (eO (b:=b11)) (h:=?_);refine ax hL (next:=λyl _=>?_);have hL1:=VI (bk:=yl.1) (bf:=yl.2.1) (br:=yl.2.2.1) (bp:=yl.2.2.2) (k:=k) (p:=p) (r:=r) (fi:=(gu r).toNat) (ls:=ls) (vh:=vh) (vs:=.slice lV k.decl.symbols.length cs1) (vr:=vr) (vc:=vc) (vu:=.slice au k.decl.rules.length cu) (gh:=gh) (gc:=.slice ag k.grid.cells.length cg) (vn:=.slice an k.bn.length cn) (vl:=vl) (vp:=vp) (v1:=w.1) (v2:=w.2) hS hpl su hls;rw[hfi]at hL1;refine go ?_;refine uF (λv:Value=>[pt b4 (.cells (qU (uf k p) vv (.slice an k.bn.length cn) v)),ap gX v (lC k p j)]) FT (h:=?_);refine SA (Z:=Nat) (λ(s:List iG) (x:LA)=>(oH r j s x,Out.normal)) (λs=>[BL λv:Value=>[pt b4 (.cells (qU (uf k p) vv (.slice an k.bn.length cn) v)),ap gX v s]]) (λvs s=>s=lC k p j++((vs.map nV).filter λx=>decide (iU r<=x.2.1.length)).map (jf r j)) (lC k p j) _ (λx z=>[pt z (.cells [x.2.1.2,x.2.2.2])]) (by simp) (λvs s x rest hs _ _=>by
    have:=AB r j (vs++[x]) (lC k p j);have h2:=AB r j vs (lC k p j);rw[hs];show oH r j _ x=_;unfold oH;rw[dW,AQ,dW,oK];by_cases h:iU r<=x.2.1.1.length
    ·rw[if_pos h,List.filter_cons_of_pos (by exact dZ h)];simp
    ·rw[if_neg h,List.filter_cons_of_neg (by rw[y8];exact h)];simp) hL1 (by intro s x lo o B w0;dsimp only[Fx,Aa,List.cons_append,List.nil_append,List.zip_cons_cons,List.zip_nil_left,List.reverse_cons,List.reverse_nil];refine go ?_;intro b14;refine go ?_;exact zT b14 rfl) ?_ ?_ (λ_ _=>trivial)
   ·rintro vs s ⟨at_,⟨cells,wc⟩,⟨vals,wv⟩⟩ rest z lo L B w0 hs hX;have hx:(at_,cells,vals)∈jw p r ls:=by rw[<- hX];exact fo.2 ⟨(at_,(cells,wc),(vals,wv)),by simp,rfl⟩
    have hpre:=VM hf hQ hsl hx;have hml:s.length<=65536:=by
     have h1:=AV (λx:Nat×List Int×List Int=>decide (iU r<=x.2.1.length)) (vs.map nV);have h2:=congrArg List.length hX;have h3:=hlf _ (bG hls);have h4:=IQ (p:=p) (r:=r) (ls:=ls);rw[bR,fA]at h2;rw[bR]at h1;rw[hs,fA,bR];omega
    have hcc:(jf r j (at_,cells,vals)).cells=cells:=by unfold jf ko;dsimp only;(repeat' split)<;>rfl
    have hrr:(jf r j (at_,cells,vals)).runs=(ko r cells vals).runs:=rfl;dsimp only[Aa,List.cons_append,List.nil_append,List.reverse_cons,List.reverse_nil];refine aS (E:=aa) (v:=wc) (xs:=cells) (by simp) λak ck ek=>?_;subst ek;have hmk:=hM.ok cells vals hpre (.slice ak cells.length ck) wv w.1 w.2;refine x8 (h:=λv=>?_);refine go ?_;refine aA rfl (λh5=>?_) (λh5=>?_)
    ·have hadd:oH r j s (at_,(cells,.slice ak cells.length ck),(vals,wv))=s:=by unfold oH;rw[if_neg (by show¬iU r<=cells.length;omega)]
     rw[hadd];refine go ?_;refine uF (λv:Value=>[pt b4 (.cells (qU (uf k p) vv (.slice an k.bn.length cn) v)),ap gX v s]) v (h:=?_);exact uG () rfl trivial trivial
    have hadd:oH r j s (at_,(cells,.slice ak cells.length ck),(vals,wv))=s++[jf r j (at_,cells,vals)]:=by unfold oH;rw[if_pos (by show iU r<=cells.length;omega)];rfl
    rw[hadd];refine go ?_;refine ax hmk (next:=λvq _=>?_);refine go ?_;intro b15;refine go ?_;intro Nu;refine eX (ah aa (.slice ak cells.length ck) (jf r j (at_,cells,vals)).cells) (λw hw=>by rw[hcc];exact hw (ah aa (.slice ak cells.length ck) cells) (by simp)) ?_;refine eX (ah aa vq (jf r j (at_,cells,vals)).runs) (λw hw=>hw (ah aa vq (ko r cells vals).runs) (by simp)) ?_;refine fC (xs:=s) gX (jf r j (at_,cells,vals)) (.slice ak cells.length ck,vq) (by omega) (next:=λad=>?_);refine go ?_;refine uF (λv:Value=>[pt b4 (.cells (qU (uf k p) vv (.slice an k.bn.length cn) v)),ap gX v (s++[jf r j (at_,cells,vals)])]) _ (h:=?_);exact uG () rfl trivial trivial
   ·intro rr xs hX;rw[AB,hX];have hnew:lC k p j++((jw p r ls).filter λx=>decide (iU r<=x.2.1.length)).map (jf r j)=lC k p (j+1):=by
     rw[IP hr];unfold kW uN;rw[uI hls]
    rw[hnew];dsimp only[List.cons_append,List.nil_append];refine x8 (h:=λv=>?_);refine go ?_;refine Rf (rs:=rs) (r:=rr) (h:=?_);exact Ri (j+1,v,rr::rs) (by show k.decl.rules.length - (j+1)<k.decl.rules.length - j;omega) (by show j+1<=_;omega)
 have jO:j=k.decl.rules.length:=by omega
 subst jO;rw[TG]at hcl⊢;refine go ?_;refine aA rfl (λh4=>?_) (λh4=>?_)
 ·have hno:¬(jg k p).length<=4096:=by omega
  refine go ?_;exact Rh (rs:=rs) ⟨false,2,.slice none 0 0,.slice none 0 0⟩ (hv:=rfl) (hp:=⟨λh=>absurd hK h,λ_ h=>absurd hQ h,λ_ _ _=>rfl,λ_ _ h=>absurd h hno,⟨λh=>(by cases h),λh=>(by cases h)⟩⟩)
 have aib:¬4096<(jg k p).length:=by omega
 refine bD (gH (E:=gX) (v:=FT) (xs:=jg k p)) (h:=?_);refine go ?_;exact Rh (rs:=rs) ⟨true,0,vv,FT⟩ (hv:=rfl) (hp:=⟨λh=>absurd hK h,λ_ h=>absurd hQ h,λ_ _ h=>absurd h aib,λ_ _ _=>rfl,⟨λ_=>rfl,λ_=>rfl⟩⟩)
