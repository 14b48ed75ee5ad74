/-
  Puzzles, in plain lists: clues that are right.
-/
import Derived.Test.YtoohgkkmdnbnfaaGreatDoorPlainBF
import Derived.Test.YtoohgkkmdnbnfaaGreatDoorPlainAF
set_option linter.all false
namespace Kd
open Go Go.Ideal Canon
def j6:Enc Clue:=⟨3,Value,λg v=>[.int .i64 g.aG,.int .i64 g.at_,v],λg v=>[ah aa v g.values],λ_ _=>rfl⟩
abbrev HZ(g:Clue)(v:Value):Value:=.agg ⟨[.int .i64 g.aG,.int .i64 g.at_,v]⟩
def rH:List Int->Int
 |[]=>0
 |a::l=>if a≠0 then a else rH l
def fK(a b:Clue):Int:=rH [fQ a.aG b.aG,fQ a.at_ b.at_]
theorem Sv(a b:Clue):fK a b=iE fQ [a.aG,a.at_] [b.aG,b.at_]:=by
 unfold fK;simp only[rH,iE]
theorem sQ{a b:Clue}:fK a b<0↔a.aG<b.aG\/(a.aG=b.aG/\a.at_<b.at_):=by
 unfold fK fQ;simp only[rH];split<;>split at *<;>(try split at *)<;>(try split at *)<;>(try split at *)<;>omega
theorem Ed{a b c:Clue}(h1:fK a b<0)(h2:fK b c<0):fK a c<0:=by
 rw[sQ]at *;omega
def xU(k:bT)(g:Clue):Prop:=∃(c:iP) (l:List (List Int)),0<=g.aG/\k.decl.aI[g.aG.toNat]? =some c/\k.lists[c.family.toNat]? =some l/\0<=g.at_/\g.at_<l.length/\
 ((c.type=1/\g.values.length=1/\∀x∈g.values,0<=x/\x<=(k.decl.symbols.length:Int) - 1)\/(c.type=2/\g.values.length=1/\∀x∈g.values,c.lo<=x/\x<=c.hi)\/
   (c.type≠1/\c.type≠2/\g.values.length<=8/\∀x∈g.values,1<=x/\x<=256))
structure kQ(k:bT)(p:List Clue):Prop where
 len:p.length<=512
 right:∀g∈p,xU k g
 sorted:∀(i:Nat) a b,p[i]? =some a->p[i+1]? =some b->fK a b<0
def LX(k:bT):Prop:=∀c∈k.decl.aI,0<=c.family/\c.family<k.lists.length
end Kd
namespace Kd
open Go Go.Ideal Canon
def Sw(k:bT)(i:Int):Int:=match k.decl.aI[i.toNat]? with|some c=>c.family|none=>0
def nO(k:bT)(g:Clue):List Int:=(k.lists.getD (Sw k g.aG).toNat []).getD g.at_.toNat []
def H6(k:bT)(p:List Clue)(r:aS):List (List Int×List Int):=
 if r.aG<0 then(k.lists.getD r.family.toNat []).map λl=>(l,[r.n])else(p.filter λg=>decide (g.aG=r.aG)).map λg=>(nO k g,g.values)
theorem uu{α:Type}{l:List α}{n:Nat}{x d:α}(h:l[n]? =some x):l.getD n d=x:=by simp[List.getD,h]
theorem xU.cells{k:bT}{g:Clue}(h:xU k g):∃(c:iP) (l:List (List Int)) (ps:List Int),k.decl.aI[g.aG.toNat]? =some c/\k.lists[c.family.toNat]? =some l/\l[g.at_.toNat]? =some ps/\0<=g.aG/\0<=g.at_/\g.at_<l.length/\nO k g=ps:=by
 obtain⟨c,l,h1,h2,h3,h4,h5,_⟩:=h;have h6:l[g.at_.toNat]? =some (l[g.at_.toNat]'(by omega)):=cz _;refine⟨c,l,_,h2,h3,h6,h1,h4,h5,?_⟩;unfold nO Sw;rw[h2];dsimp only;rw[uu h3,uu h6]
end Kd
namespace Kd
open Go Go.Ideal Canon
end Kd
namespace Kd
open Go Go.Ideal
def zB(n:Nat)(l:List Int):Prop:=l.length<=4096/\∀c∈l,0<=c/\c<(n:Int)
theorem H7{g:bq}:∀p∈bA g,0<=p.1/\p.1<(g.cells.length:Int):=by
 intro p hp;obtain⟨k,hk⟩:=tQ.1 hp;have hkl:=(bN.1 hk).1;rw[nV]at hkl;have:=vU hk;omega
theorem abT(kf:Int×Int->Int×Bool)(n:Nat):∀ps:List (Int×(Int×Int)),ps.length=n->∀a,∀c∈(dB a (iQ kf ps)).getD [],∃p∈ps,p.1=c:=by
 induction n with
 |zero=>
  intro ps h a c hc;rw[jI.1 h]at hc;have hc:c∈([]:List Int):=hc;cases hc
 |succ n ih=>
  intro ps h a c hc;obtain⟨qs,p,rfl⟩:∃qs p,ps=qs++[p]:=⟨ps.dropLast,ps.getLast (by intro e;rw[e]at h;cases h),(Ai _).symm⟩
  have hq:qs.length=n:=by simpa using h
  have hih:∀a,∀c∈(dB a (iQ kf qs)).getD [],∃p'∈qs++[p],p'.1=c:=λa c hc=>by
   obtain⟨q,h1,h2⟩:=ih qs hq a c hc;exact⟨q,kv _ h1,h2⟩
  rw[D9]at hc;unfold uy at hc;cases hb:(kf p.2).2 with
  |false=>
   rw[hb]at hc;exact hih a c hc
  |true=>
   rw[hb]at hc;have hc:c∈(dB a (upd (kf p.2).1 ((dB (kf p.2).1 (iQ kf qs)).getD []++[p.1]) (iQ kf qs))).getD []:=hc;rw[vW]at hc;by_cases e:a=(kf p.2).1
   ·rw[if_pos e,tK]at hc;rcases dX.1 hc with hc|hc
    ·exact hih _ c hc
    ·exact⟨p,by simp,(bH.1 hc).symm⟩
   ·rw[if_neg e]at hc;exact hih a c hc
theorem Ee{g:bq}(hg:eP g)(kf:Int×Int->Int×Bool):∀l∈iG g kf,zB g.cells.length l:=by
 intro l hl;have hlen:=(Ea hg kf).2 l hl;refine⟨by omega,λc hc=>?_⟩;unfold iG at hl;obtain⟨n,_,rfl⟩:=eG.1 hl;obtain⟨p,hp,rfl⟩:=abT kf _ (bA g) rfl n c hc;exact H7 p hp
theorem LY{a b:List (List Int)}{l:List Int}(h:l∈lm a b):l∈a\/l∈b:=by
 unfold lm at h;induction b generalizing a with
 |nil=>exact .inl h
 |cons x b ih=>
  rw[tC]at h;rcases ih h with h|h
  ·unfold vX at h;split at h
   ·exact .inl h
   ·rcases dX.1 h with h|h
    ·exact .inl h
    ·exact .inr (by rw[bH.1 h];simp)
  ·exact .inr (dI _ h)
theorem Sy{o:Option Value}{n:Int}(h:numOf o=some n):o=some (.int .i64 n):=by
 unfold numOf at h;split at h
 ·cases h;rfl
 ·cases h
theorem abU{g:bq}{p:Int×(Int×Int)}:zB g.cells.length (kP g p):=by
 unfold kP;refine⟨?_,λc hc=>?_⟩
 ·have h1:(cK (fU (eT (bA g)) p.2 (dW.take (dP g)))).length=(fU (eT (bA g)) p.2 (dW.take (dP g))).length:=(wN _ _).length_eq;have h2:=Hu (eT (bA g)) p.2 (dW.take (dP g));have h3:=zA g;rw[iy]at h2;omega
 ·rw[uz]at hc;unfold fU at hc;obtain⟨d,_,hd⟩:=EU.1 hc;obtain⟨c',h1,q,hq,h2⟩:=Sb _ _ (Sy hd);injection h1 with _ h1;rw[h1,<- h2];exact H7 q hq
theorem H8{g:bq}:∀l∈bG g,zB g.cells.length l:=by
 intro l hl;obtain⟨p,_,rfl⟩:=eG.1 hl;exact abU
theorem abV(l:List Int):(cK l).length=l.length:=(wN l _).length_eq
theorem abW{g:bq}(hg:eP g)(k:Int):∀l∈dm g k,zB g.cells.length l:=by
 have hlen:=hg.len;have hnl:=vV g;have hnm:=Ec (g:=g);intro l hl;unfold dm at hl;split at hl
 ·unfold j4 at hl;obtain⟨i,hi,rfl⟩:=eG.1 hl;have:=tN.1 hi;exact⟨by simp,λc hc=>by rw[bH.1 hc];omega⟩
 split at hl
 ·exact Ee hg _ l hl
 split at hl
 ·exact Ee hg _ l hl
 split at hl
 ·unfold kH at hl;split at hl
  ·exact Ee hg _ l hl
  split at hl
  ·rcases LY hl with hl|hl
   ·exact Ee hg _ l hl
   ·exact Ee hg _ l hl
  ·cases hl
 split at hl
 ·exact H8 l hl
 split at hl
 ·unfold j5 at hl;obtain⟨⟨x,i⟩,hx,rfl⟩:=eG.1 hl;have hx:=yI.1 hx;have hxm:=bI hx;have hi:=(bN.1 hx).1;have h6:=hnm x hxm;refine⟨by rw[abV];simp;omega,λc hc=>?_⟩;rw[uz]at hc;rcases dX.1 hc with hc|hc
  ·exact(H8 x hxm).2 c hc
  ·rw[bH.1 hc];dsimp only;omega
 split at hl
 ·unfold gU at hl;obtain⟨⟨x,i⟩,hx,hl⟩:=List.mem_flatMap.1 hl;have hx:=yI.1 hx;have hxm:=bI hx;have hi:=(bN.1 hx).1;unfold jm at hl;obtain⟨j,hj,rfl⟩:=eG.1 hl;have hj:=(rU.1 hj).1;refine⟨by simp,λc hc=>?_⟩;simp only[dD,ET,or_false]at hc;rcases hc with rfl|rfl
  ·omega
  ·exact(H8 x hxm).2 _ hj
 ·rw[bH.1 hl];refine⟨by rw[rG];omega,λc hc=>?_⟩;unfold upTo' at hc;obtain⟨i,hi,rfl⟩:=eG.1 hc;have:=tN.1 hi;omega
theorem abX{g:bq}(hg:eP g){rs:List (List Int)}(hr:vZ g rs):∀l∈dS g rs,zB g.cells.length l:=by
 intro l hl;obtain⟨ps,hps,rfl⟩:=eG.1 hl;have hP:=hr.all ps hps;have h1:=HY hP.mem hP.nd;have h2:=hg.len;refine⟨by unfold eF;rw[bU];omega,λc hc=>?_⟩;obtain⟨p,hp,rfl⟩:=eG.1 hc;have:=LW (hP.mem p hp);omega
theorem abY{d:bD}(hg:eP (aN d))(hr:∀r∈d.regions,vZ (aN d) r.lists):∀l∈kI d,∀ps∈l,zB (aN d).cells.length ps:=by
 intro l hl ps hps;unfold kI at hl;rcases dX.1 hl with hl|hl
 ·obtain⟨f,_,rfl⟩:=eG.1 hl;exact abW hg _ ps hps
 ·obtain⟨r,hrm,rfl⟩:=eG.1 hl;exact abX hg (hr r hrm) ps hps
theorem abZ{g:bq}(hw:1<=g.w){x y:Int}(hx:0<=x)(hy:0<=y)(h:mG g x=mG g y):x=y:=by
 unfold mG at h;have h1:=congrArg Prod.fst h;have h2:=congrArg Prod.snd h;dsimp only at h1 h2;rw[rW hx,rW hy]at h2;rw[rW hx,rW hy,Cr hx,Cr hy,h2]at h1;have h3:x%g.w=y%g.w:=by
  split at h1<;>omega
 have e1:=NR x g.w;have e2:=NR y g.w;rw[h2,h3]at e1;omega
theorem H9{g:bq}(hg:eP g){p q:Int×(Int×Int)}(hp:p∈bA g)(hq:q∈bA g)(h:p.1=q.1\/p.2=q.2):p=q:=by
 obtain⟨k,hk⟩:=tQ.1 hp;obtain⟨j,hj⟩:=tQ.1 hq;have hkl:=(bN.1 hk).1;have hjl:=(bN.1 hj).1;rw[nV]at hkl hjl;rcases h with h|h
 ·have h1:=vU hk;have h2:=vU hj;have:k=j:=by omega
  subst this;rw[hk]at hj;exact Option.some.inj hj
 ·have hx:g.cells[k]? =some g.cells[k]:=cz hkl;have hy:g.cells[j]? =some g.cells[j]:=cz hjl;have hkk:=hk;have hjj:=hj;rw[vT hx]at hk;rw[vT hy]at hj;have hk:=Option.some.inj hk;have hj:=Option.some.inj hj;have hs:mG g g.cells[k]=mG g g.cells[j]:=by rw[<- hk,<- hj]at h;exact h
  have he:=abZ (by have:=hg.make.wi;omega) (hg.cell _ (wI _)).1 (hg.cell _ (wI _)).1 hs;have lV:g.cells.Pairwise (·<·):=by rw[hg.cells];exact LK _ _
  have hkj:k=j:=by
   apply Classical.byContradiction;intro hne;have:=yJ.1 lV;rcases Nat.lt_or_gt_of_ne hne with hl|hl
   ·have:=this k j hkl hjl hl;omega
   ·have:=this j k hjl hkl hl;omega
  subst hkj;rw[hkk]at hjj;exact Option.some.inj hjj
theorem ab0(n:Nat):∀xs:List (Int×(Int×Int)),xs.length=n->(∀p∈xs,∀q∈xs,p.2=q.2->p=q)->∀p∈xs,dB p.2 (eT xs)=some (.int .i64 p.1):=by
 induction n with
 |zero=>intro xs h _ p hp;rw[jI.1 h]at hp;cases hp
 |succ n ih=>
  intro xs h hi p hp;obtain⟨ys,q,rfl⟩:∃ys q,xs=ys++[q]:=⟨xs.dropLast,xs.getLast (by intro e;rw[e]at h;cases h),(Ai _).symm⟩
  rw[LM,vW];by_cases e:p.2=q.2
  ·have:=hi p hp q (by simp) e;subst this;rw[if_pos rfl]
  ·rw[if_neg e];refine ih ys (by simpa using h) (λa ha b hb=>hi a (kv _ ha) b (kv _ hb)) p ?_;rcases dX.1 hp with hp|hp
   ·exact hp
   ·rw[bH.1 hp]at e;exact absurd rfl e
theorem ab1(n:Nat):∀xs:List (Int×(Int×Int)),xs.length=n->∀a v,dB a (eT xs)=some v->∃p∈xs,p.2=a/\v=.int .i64 p.1:=by
 induction n with
 |zero=>
  intro xs h a v hv;rw[jI.1 h]at hv;cases hv
 |succ n ih=>
  intro xs h a v hv;obtain⟨ys,q,rfl⟩:∃ys q,xs=ys++[q]:=⟨xs.dropLast,xs.getLast (by intro e;rw[e]at h;cases h),(Ai _).symm⟩
  rw[LM,vW]at hv;by_cases e:a=q.2
  ·rw[if_pos e]at hv;exact⟨q,by simp,e.symm,(Option.some.inj hv).symm⟩
  ·rw[if_neg e]at hv;obtain⟨p,h1,h2⟩:=ih ys (by simpa using h) a v hv;exact⟨p,kv _ h1,h2⟩
theorem Ia{g:bq}(hg:eP g){s:Int×Int}{d:Int×Int}{n:Int}:numOf (dB (s.1+d.1,s.2+d.2) (eT (bA g)))=some n↔∃q∈bA g,q.2=(s.1+d.1,s.2+d.2)/\q.1=n:=by
 constructor
 ·intro h;obtain⟨q,hq,h1,h2⟩:=ab1 _ (bA g) rfl _ _ (Sy h);injection h2 with _ h2;exact⟨q,hq,h1,h2.symm⟩
 ·rintro⟨q,hq,h1,h2⟩;rw[<- h1,ab0 _ (bA g) rfl (λa ha b hb e=>H9 hg ha hb (.inr e)) q hq,<- h2];rfl
theorem LZ{g:bq}(hg:eP g){p:Int×(Int×Int)}{n:Int}:n∈kP g p↔∃d∈dW.take (dP g),∃q∈bA g,q.2=(p.2.1+d.1,p.2.2+d.2)/\q.1=n:=by
 unfold kP;rw[uz];unfold fU;rw[EU];constructor
 ·rintro⟨d,hd,h⟩;exact⟨d,hd,(Ia hg).1 h⟩
 ·rintro⟨d,hd,h⟩;exact⟨d,hd,(Ia hg).2 h⟩
theorem Sz(g:bq):dP g=4\/dP g=6:=by unfold dP;split<;>simp
theorem ab2{m:Nat}(hm:m=4\/m=6):∀d∈dW.take m,(-d.1, -d.2)∈dW.take m:=by
 rcases hm with rfl|rfl<;>decide
theorem ab3{m:Nat}:∀d∈dW.take m,¬(d.1=0/\d.2=0):=by
 intro d hd;have:=NC hd;revert d;have:∀d∈dW,¬(d.1=0/\d.2=0):=by decide
 intro d _ hd;exact this d hd
theorem ab4{m:Nat}(hm:m=4\/m=6):(dW.take m).Nodup:=by
 rcases hm with rfl|rfl<;>decide
theorem ab5(l:List Int):(cK l).Pairwise (λx y=>x<=y):=by
 have:=NP (le:=λx y:Int=>decide (x<=y)) (λa b c h1 h2=>by simp at h1 h2⊢;omega) (λa b=>by simp;omega) l;exact this.imp (λh=>by simpa using h)
theorem Ib{l:List Int}(h:l.Nodup):(cK l).Pairwise (·<·):=by
 have h1:=ab5 l;have h2:(cK l).Nodup:=(wN l _).symm.nodup h;have h3:(cK l).Pairwise (λx y=>x<=y/\x≠y):=List.Pairwise.and h1 h2;exact h3.imp (λh=>by omega)
theorem L6{g:bq}(hg:eP g)(p:Int×(Int×Int)):(kP g p).Pairwise (·<·):=by
 unfold kP;refine Ib ?_;unfold fU;refine List.Pairwise.filterMap _ ?_ (ab4 (Sz g));intro d1 d2 hne b hb b' hb' e;subst e;obtain⟨q1,h1,h2,h3⟩:=(Ia hg).1 hb;obtain⟨q2,k1,k2,k3⟩:=(Ia hg).1 hb';have:=H9 hg h1 k1 (.inl (by rw[h3,k3]));subst this;rw[h2]at k2;apply hne;have e1:=congrArg Prod.fst k2;have e2:=congrArg Prod.snd k2;dsimp only at e1 e2;exact Prod.ext (by omega) (by omega)
theorem SA{g:bq}(hg:eP g)(i:Nat)(l:List Int)(hl:(bG g)[i]? =some l)(k:Nat)(n:Int)(hn:l[k]? =some n):
 0<=n/\n<(bG g).length/\n≠i/\(∀m,0<k->l[k - 1]? =some m->m<n)/\∀l',(bG g)[n.toNat]? =some l'->(i:Int)∈l':=by
 have hnm:=vV g;unfold bG at hl;rw[fo]at hl;obtain⟨p,hp,rfl⟩:=l8.1 hl;have hp1:=vU hp;have hpm:=bI hp;obtain⟨d,hd,q,hq,hq2,hq1⟩:=(LZ hg).1 (bI hn);have hqi:=H7 q hq;refine⟨by omega,by omega,λe=>?_,λm hk hm=>?_,λl' hl'=>?_⟩
 ·have:q=p:=H9 hg hq hpm (.inl (by omega));subst this;have e1:=congrArg Prod.fst hq2;have e2:=congrArg Prod.snd hq2;dsimp only at e1 e2;exact ab3 d hd ⟨by omega,by omega⟩
 ·have hlt:=L6 hg p;obtain⟨a1,a2⟩:=bN.1 hm;obtain⟨b1,b2⟩:=bN.1 hn;have:=yJ.1 hlt (k - 1) k a1 b1 (by omega);rw[a2,b2]at this;exact this
 ·unfold bG at hl';rw[fo]at hl';obtain⟨q',hq',rfl⟩:=l8.1 hl';have h1:=vU hq';have:q'=q:=H9 hg (bI hq') hq (.inl (by omega));subst this;rw[LZ hg];refine⟨(-d.1, -d.2),ab2 (Sz g) d hd,p,hpm,?_,hp1⟩;rw[hq2];dsimp only;exact Prod.ext (by dsimp only;omega) (by dsimp only;omega)
end Kd
namespace Kd
open Go Go.Ideal Canon Gph
def uB(r:aS)(vals:List Int):Int:=if r.bW=⟨⟨[]⟩⟩then r.n else vals.getD 0 0
def lW(r:aS)(vals:List Int)(most:Int):Int×Int:=if r.op=2 then(0,uB r vals)else if r.op=3 then(uB r vals,max (uB r vals) most)else(uB r vals,uB r vals)
def fD(r:aS):Int:=if r.kind=6\/r.kind=7\/r.kind=8 then 6 else if r.kind=9\/r.kind=10 then 7 else if r.kind=11 then 0 else r.family
def jo(r:aS):Nat:=if r.kind=1\/r.kind=4 then 2 else 0
def SB(k:Int):Int:=if k=1 then 1 else if k=4 then 4 else if k=6 then 1 else if k=7 then 6 else if k=8 then 7 else if k=9 then 8 else 9
def jG(r:aS)(cells vals:List Int):kM:=
 if r.kind=2 then⟨2,cells,r.set,0,(lW r vals cells.length).1,(lW r vals cells.length).2,[],0,0⟩
 else if r.kind=3 then⟨3,cells,0,0,(lW r vals 65536).1,(lW r vals 65536).2,[],0,0⟩
 else if r.kind=5 then⟨5,cells,r.set,0,0,0,vals,0,0⟩
 else if r.kind=11 then⟨2,cells,((1<<<(vals.getD 0 0).toNat:Nat):Int),0,1,1,[],0,0⟩
 else⟨SB r.kind,cells,r.set,r.other,r.n,0,[],0,0⟩
end Kd
namespace Kd
open Go Go.Ideal Canon Gph
def nH(p:List Clue)(c:Int)(at_:Int):Option (List Int):=(p.find? λg=>decide (g.aG=c/\g.at_=at_)).map (·.values)
def rJ(p:List Clue)(r:aS)(x:List Int×Nat):Option (Nat×List Int×List Int):=if r.aG<0 then some (x.2,x.1,[])else(nH p r.aG (x.2:Int)).map λv=>(x.2,x.1,v)
def jD(p:List Clue)(r:aS)(ls:List (List Int)):List (Nat×List Int×List Int):=ls.zipIdx.filterMap (rJ p r)
theorem ab6{p:List Clue}{r:aS}{ls:List (List Int)}{j:Nat}{l:List Int}(h:ls[j]? =some l):jD p r (ls.take (j+1))=jD p r (ls.take j)++(rJ p r (l,j)).toList:=by
 have hk:=(bN.1 h).1;unfold jD;rw[bX h,Co,NQ,iy,Ag (by omega)];congr 1;rw[List.zipIdx_cons,List.zipIdx_nil,fw,List.filterMap_cons,List.filterMap_nil];cases rJ p r (l,j)<;>rfl
abbrev LA:=Nat×(List Int×Value)×(List Int×Value)
def nI(x:LA):Nat×List Int×List Int:=(x.1,x.2.1.1,x.2.2.1)
def Ef(x:LA):List Value:=[.int .i64 (x.1:Int),.agg ⟨[x.2.1.2,x.2.2.2]⟩]
def zC(x:LA):List aF:=[ah aa x.2.1.2 x.2.1.1,ah aa x.2.2.2 x.2.2.1]
def xV(l:List (Nat×List Int×List Int)):List LA:=l.map λy=>(y.1,(y.2.1,.nilFunc),(y.2.2,.nilFunc))
theorem SC(l:List (Nat×List Int×List Int)):(xV l).map nI=l:=by
 unfold xV;rw[uN];have:nI∘(λy:Nat×List Int×List Int=>((y.1,(y.2.1,Value.nilFunc),(y.2.2,Value.nilFunc)):LA))=id:=rfl;rw[this,List.map_id]
end Kd
namespace Kd
open Go Go.Ideal Canon Gph
theorem ab7(kf:Int×Int->Int×Bool)(n:Nat):∀ps:List (Int×(Int×Int)),ps.length=n->∀a,((dB a (iQ kf ps)).getD []).Sublist (ps.map (·.1)):=by
 induction n with
 |zero=>
  intro ps h a;rw[jI.1 h];exact List.Sublist.refl _
 |succ n ih=>
  intro ps h a;obtain⟨qs,p,rfl⟩:∃qs p,ps=qs++[p]:=⟨ps.dropLast,ps.getLast (by intro e;rw[e]at h;cases h),(Ai _).symm⟩
  have hq:qs.length=n:=by simpa using h
  have ih:=ih qs hq;rw[dY,D9];unfold uy;cases hb:(kf p.2).2 with
  |false=>exact(ih a).trans (List.sublist_append_left _ _)
  |true=>
   show((dB a (upd (kf p.2).1 ((dB (kf p.2).1 (iQ kf qs)).getD []++[p.1]) (iQ kf qs))).getD []).Sublist _;rw[vW];by_cases e:a=(kf p.2).1
   ·rw[if_pos e,tK];exact(ih _).append (List.Sublist.refl _)
   ·rw[if_neg e];exact(ih a).trans (List.sublist_append_left _ _)
theorem ab8{g:bq}:(bA g).map (·.1)=upTo' g.cells.length:=by
 apply ku;intro i;unfold upTo';rw[fo,fo];by_cases h:i<g.cells.length
 ·rw[vT (cz h),ER h];rfl
 ·rw[iB (by rw[nV];omega),iB (by rw[Cn];omega)];rfl
theorem SE(n:Nat):(upTo' n).Nodup:=by
 unfold upTo';refine List.Pairwise.map _ (λa b h=>?_) List.nodup_range;intro e;apply h;omega
theorem Eg{g:bq}(kf:Int×Int->Int×Bool):∀l∈iG g kf,l.Nodup:=by
 intro l hl;unfold iG at hl;obtain⟨n,_,rfl⟩:=eG.1 hl;have:=ab7 kf _ (bA g) rfl n;rw[ab8]at this;exact this.nodup (SE _)
theorem SF{g:bq}(hg:eP g)(p:Int×(Int×Int)):(kP g p).Nodup:=(L6 hg p).imp (λh=>by omega)
theorem ab9{l:List Int}(h:l.Nodup):(cK l).Nodup:=(Ib h).imp (λh=>by omega)
theorem acd{bE:List (List Int)}{l:List Int}(h:l∈gU bE):∃(i:Nat) (x:List Int) (j:Int),bE[i]? =some x/\j∈x/\(i:Int)<j/\l=[(i:Int),j]:=by
 unfold gU at h;obtain⟨⟨x,i⟩,hx,hl⟩:=List.mem_flatMap.1 h;unfold jm at hl;obtain⟨j,hj,rfl⟩:=eG.1 hl;obtain⟨h1,h2⟩:=rU.1 hj;exact⟨i,x,j,yI.1 hx,h1,gQ h2,rfl⟩
theorem ace{g:bq}(hg:eP g)(k:Int):∀l∈dm g k,l.Nodup:=by
 intro l hl;unfold dm at hl;split at hl
 ·unfold j4 at hl;obtain⟨i,hi,rfl⟩:=eG.1 hl;simp
 split at hl
 ·exact Eg _ l hl
 split at hl
 ·exact Eg _ l hl
 split at hl
 ·unfold kH at hl;split at hl
  ·exact Eg _ l hl
  split at hl
  ·rcases LY hl with hl|hl
   ·exact Eg _ l hl
   ·exact Eg _ l hl
  ·cases hl
 split at hl
 ·unfold bG at hl;obtain⟨p,_,rfl⟩:=eG.1 hl;exact SF hg p
 split at hl
 ·unfold j5 at hl;obtain⟨⟨x,i⟩,hx,rfl⟩:=eG.1 hl;have hx:=yI.1 hx;have hxm:=bI hx;refine ab9 ?_;rw[iJ];refine⟨?_,by simp,λa ha b hb e=>?_⟩
  ·unfold bG at hxm;obtain⟨p,_,rfl⟩:=eG.1 hxm;exact SF hg p
  ·rw[bH.1 hb]at e;obtain⟨j,hj⟩:=mH ha;exact(SA hg i x hx j a hj).2.2.1 e
 split at hl
 ·obtain⟨i,x,j,h1,h2,h3,rfl⟩:=acd hl;simp only[Ad,bH,ET,not_false_iff,tT,wM];omega
 ·rw[bH.1 hl];exact SE _
theorem acf{d:bD}(hg:eP (aN d))(hr:∀r∈d.regions,vZ (aN d) r.lists):∀l∈kI d,∀ps∈l,ps.Nodup:=by
 intro l hl ps hps;unfold kI at hl;rcases dX.1 hl with hl|hl
 ·obtain⟨f,_,rfl⟩:=eG.1 hl;exact ace hg _ ps hps
 ·obtain⟨r,hrm,rfl⟩:=eG.1 hl;obtain⟨q,hq,rfl⟩:=eG.1 hps;exact((hr r hrm).all q hq).nd
end Kd
namespace Kd
open Go Go.Ideal Canon Gph
def xW(k:bT)(p:List Clue)(r:aS):List (Nat×List Int×List Int):=(jD p r (k.lists.getD (fD r).toNat [])).filter λx=>decide (jo r<=x.2.1.length)
def iR(r:aS)(i:Nat)(x:Nat×List Int×List Int):kM:={jG r x.2.1 x.2.2 with rule:=(i:Int),at_:=(x.1:Int)}
def oH(k:bT)(p:List Clue)(r:aS)(i:Nat):List kM:=(xW k p r).map (iR r i)
def jH(k:bT)(p:List Clue):List kM:=k.decl.rules.zipIdx.flatMap λx=>oH k p x.1 x.2
theorem Ic{k:bT}{p:List Clue}(h:kQ k p):∀(d i:Nat) a b,p[i]? =some a->p[i+1+d]? =some b->fK a b<0
 |0,i,a,b,ha,hb=>h.sorted i a b ha hb
 |d+1,i,a,b,ha,hb=>by
  have hlt:=(bN.1 hb).1;have hc:p[i+1+d]? =some (p[i+1+d]'(by omega)):=cz _;exact Ed (Ic h d i a _ ha hc) (h.sorted (i+1+d) _ b hc hb)
theorem acg{k:bT}{p:List Clue}(h:kQ k p){a b:Clue}(ha:a∈p)(hb:b∈p)(h1:a.aG=b.aG)(h2:a.at_=b.at_):a=b:=by
 obtain⟨i,hi⟩:=mH ha;obtain⟨j,hj⟩:=mH hb;rcases Nat.lt_trichotomy i j with hl|hl|hl
 ·have:=sQ.1 (Ic h (j - (i+1)) i a b hi (by rw[show i+1+(j - (i+1))=j by omega];exact hj));omega
 ·subst hl;rw[hi]at hj;exact Option.some.inj hj
 ·have:=sQ.1 (Ic h (i - (j+1)) j b a hj (by rw[show j+1+(i - (j+1))=i by omega];exact hi));omega
theorem ach{k:bT}{p:List Clue}(h:kQ k p){c a:Int}{v:List Int}:nH p c a=some v↔∃g∈p,g.aG=c/\g.at_=a/\g.values=v:=by
 unfold nH;constructor
 ·intro hf;obtain⟨g,hg,rfl⟩:=l8.1 hf;have h1':=List.find?_some hg;have h1:g.aG=c/\g.at_=a:=gQ h1';exact⟨g,NN hg,h1.1,h1.2,rfl⟩
 ·rintro⟨g,hg,h1,h2,rfl⟩;cases hf:p.find? (λg=>decide (g.aG=c/\g.at_=a))with
  |none=>exact absurd (dZ ⟨h1,h2⟩) (EY.1 hf g hg)
  |some g2=>
   have h3':=List.find?_some hf;have h3:g2.aG=c/\g2.at_=a:=gQ h3';rw[acg h hg (NN hf) (by omega) (by omega)];rfl
theorem Ie{p:List Clue}{r:aS}{ls:List (List Int)}{y:Nat×List Int×List Int}:y∈jD p r ls↔ls[y.1]? =some y.2.1/\((r.aG<0/\y.2.2=[])\/(0<=r.aG/\nH p r.aG (y.1:Int)=some y.2.2)):=by
 obtain⟨j,l,v⟩:=y;unfold jD;rw[EU];constructor
 ·rintro⟨⟨x,i⟩,hx,h⟩;have hx:=yI.1 hx;unfold rJ at h;split at h
  ·rename_i hc;cases h;exact⟨hx,.inl ⟨hc,rfl⟩⟩
  ·rename_i hc;obtain⟨w,hw,e⟩:=l8.1 h;cases e;exact⟨hx,.inr ⟨by omega,hw⟩⟩
 ·rintro⟨h1,h2⟩;refine⟨(l,j),yI.2 h1,?_⟩;unfold rJ;rcases h2 with⟨hc,e⟩|⟨hc,e⟩
  ·rw[if_pos hc];dsimp only at e;rw[e]
  ·rw[if_neg (by omega)];dsimp only at e⊢;rw[e];rfl
end Kd
namespace Kd
open Go Go.Ideal
end Kd
namespace Kd
open Go Go.Ideal Canon Gph
theorem aci{g:bq}(hg:eP g)(k:Int):(dm g k).length<=2048:=by
 have hl:=hg.len;have hn:=vV g;have hL:=λkf=>Ea hg kf;unfold dm;split
 ·unfold j4;rw[bU,Cn];omega
 split
 ·have:=(hL (λs=>(s.2,true))).1;omega
 split
 ·have:=(hL (λs=>(s.1,true))).1;omega
 split
 ·unfold kH;split
  ·have:=(hL (λs=>(s.1+s.2,true))).1;omega
  split
  ·have h1:=hL (λs=>(0,decide (s.1=s.2)));have h2:=hL (λs=>(0,decide (s.1+s.2=g.w - 1)));have:=(HV h1.2 h2.2 (iG g (λs=>(0,decide (s.1+s.2=g.w - 1)))).length).1;rw[bK]at this;omega
  ·simp
 split
 ·omega
 split
 ·unfold j5;rw[bU,List.length_zipIdx];omega
 split
 ·have:=Eb (bE:=bG g) Ec (bG g).length (bP _);rw[bK]at this;omega
 ·simp
theorem acj{d:bD}(hg:eP (aN d))(hr:∀r∈d.regions,vZ (aN d) r.lists):∀l∈kI d,l.length<=2048:=by
 intro l hl;unfold kI at hl;rcases dX.1 hl with hl|hl
 ·obtain⟨f,_,rfl⟩:=eG.1 hl;exact aci hg _
 ·obtain⟨r,hrm,rfl⟩:=eG.1 hl;have:=(hr r hrm).len;unfold dS;rw[bU];omega
def kR(k:bT)(p:List Clue)(j:Nat):List kM:=(k.decl.rules.take j).zipIdx.flatMap λx=>oH k p x.1 x.2
theorem SG{k:bT}{p:List Clue}:kR k p k.decl.rules.length=jH k p:=by unfold kR jH;rw[bK]
theorem Ig{k:bT}{p:List Clue}{j:Nat}{r:aS}(h:k.decl.rules[j]? =some r):kR k p (j+1)=kR k p j++oH k p r j:=by
 have hk:=(bN.1 h).1;unfold kR;rw[bX h,Co,List.flatMap_append,iy,Ag (by omega)];simp
theorem Ih{p:List Clue}{r:aS}{ls:List (List Int)}:(jD p r ls).length<=ls.length:=by
 unfold jD;exact kU (Vn _ _) (by rw[List.length_zipIdx];exact bP _)
theorem ack{k:bT}{p:List Clue}{r:aS}{j:Nat}(hl:∀l∈k.lists,l.length<=2048):(oH k p r j).length<=2048:=by
 unfold oH xW;rw[bU];refine kU (Ah _ _) (kU Ih ?_);rw[List.getD];cases h:k.lists[(fD r).toNat]? with
 |none=>simp
 |some l=>exact hl l (bI h)
theorem SH{k:bT}{p:List Clue}(hl:∀l∈k.lists,l.length<=2048):∀j,j<=k.decl.rules.length->(kR k p j).length<=2048*j
 |0,_=>cB _
 |j+1,hj=>by
  have:=SH (p:=p) hl j (by omega);rw[Ig (cz (by omega)),gD];have:=ack (p:=p) (r:=k.decl.rules[j]) (j:=j) hl;omega
end Kd
namespace Kd
open Canon
theorem Ii{a b:Clue}:fK a b=0↔a.aG=b.aG/\a.at_=b.at_:=by
 unfold fK fQ;simp only[rH];split<;>split at *<;>(try split at *)<;>(try split at *)<;>(try split at *)<;>omega
theorem acm(a b:Clue):sM a b=if fK a b≠0 then fK a b else iE fQ a.values b.values:=by
 rw[Zk,<- Sv]
theorem acn{a b:Clue}:sM a b<0↔fK a b<0\/(fK a b=0/\iE fQ a.values b.values<0):=by
 rw[acm];split<;>omega
structure xX(xs rs:List Clue):Prop where
 inc:rs.Pairwise λa b=>fK a b<0
 sub:∀r∈rs,r∈xs
 all:∀x∈xs,∃r∈rs,fK x r=0/\¬iE fQ x.values r.values<0
theorem aco{rs:List Clue}(h:rs.Pairwise λa b=>fK a b<0){a b:Clue}(ha:a∈rs)(hb:b∈rs)(he:fK a b=0):a=b:=by
 induction h with
 |nil=>cases ha
 |cons h1 _ ih=>
  rcases dD.1 ha with e1|ha'<;>rcases dD.1 hb with e2|hb'
  ·rw[e1,e2]
  ·have:=h1 b hb';rw[<- e1]at this;omega
  ·have:=h1 a ha';rw[<- e2]at this;rw[Ii]at he;rw[sQ]at this;omega
  ·exact ih ha' hb'
theorem xX.mem{xs rs rs':List Clue}(h:xX xs rs)(h':xX xs rs'){r:Clue}(hr:r∈rs):r∈rs':=by
 obtain⟨r2,m2,p2,v2⟩:=h'.all r (h.sub r hr);obtain⟨r1,m1,p1,v1⟩:=h.all r2 (h'.sub r2 m2);have h3:fK r r1=0:=by rw[Ii]at *;omega
 have:=aco h.inc hr m1 h3;subst this;have hO:=AZ xB;have h4:iE fQ r.values r2.values=0:=by
  have:=hO.neg r2.values r.values;have:=hO.neg r.values r2.values;omega
 have h5:=(hO.zero _ _).1 h4;rw[Ii]at p2;have:r=r2:=by cases r;cases r2;simp_all
 rw[this];exact m2
theorem xX.self{xs rs:List Clue}(h:xX xs rs):xX rs rs:=⟨h.inc,λ_ h=>h,λx hx=>⟨x,hx,by rw[Ii];exact⟨rfl,rfl⟩,by have:=((AZ xB).zero x.values x.values).2 rfl;omega⟩⟩
def opn(p:List Clue)(x:Clue):Bool:=match p.getLast? with
 |none=>true
 |some y=>decide (0<fK x y)
theorem L8{p:List Clue}{b x:Clue}:opn (p++[b]) x=decide (0<fK x b):=by
 unfold opn;rw[List.getLast?_append];rfl
theorem Ij{a b:Clue}:0<fK a b↔fK b a<0:=by
 rw[sQ];unfold fK fQ;simp only[rH];split<;>split at *<;>(try split at *)<;>(try split at *)<;>(try split at *)<;>omega
structure zD(l p:List Clue)(n:Nat):Prop where
 inc:p.Pairwise λa b=>fK a b<0
 sub:∀r∈p,r∈l
 done:∀x∈l,opn p x=false->∃r∈p,fK x r=0/\¬iE fQ x.values r.values<0
 cnt:l.countP (opn p)+n<=l.length
theorem SI{α:Type}{p q:α->Bool}:∀{l:List α} {b:α},b∈l->p b=true->q b=false->(∀x,q x=true->p x=true)->l.countP q+1<=l.countP p
 |x::l,b,hb,h1,h2,h3=>by
  rw[List.countP_cons,List.countP_cons];rcases dD.1 hb with rfl|hb
  ·have:=List.countP_mono_left (l:=l) (p:=q) (q:=p) λx _=>h3 x;rw[h1,h2];simp only[if_true];simp;omega
  ·have:=SI hb h1 h2 h3;by_cases e:q x=true
   ·rw[if_pos e,if_pos (h3 x e)];omega
   ·rw[if_neg e];omega
theorem SK:∀{p:List Clue} {y:Clue},(p.Pairwise λa b=>fK a b<0)->p.getLast? =some y->∀a∈p,a=y\/fK a y<0
 |[],y,_,h,a,ha=>by cases ha
 |[x],y,_,h,a,ha=>by
  cases h;exact .inl (bH.1 ha)
 |x::z::p,y,hp,h,a,ha=>by
  obtain⟨h1,h2⟩:=rV.1 hp;have h':(z::p).getLast? =some y:=by rw[List.getLast?_cons_cons]at h;exact h
  rcases dD.1 ha with rfl|ha
  ·exact .inr (h1 y (List.mem_of_getLast? h'))
  ·exact SK h2 h' a ha
theorem zD.step{l p:List Clue}{n:Nat}{b:Clue}(h:zD l p n)(hb:b∈l)(ho:opn p b=true)(hl:∀x∈l,opn p x=true->¬sM x b<0):zD l (p++[b]) (n+1):=by
 have hab:∀y,p.getLast? =some y->fK y b<0:=λy hy=>by
  unfold opn at ho;rw[hy]at ho;exact Ij.1 (gQ ho)
 refine⟨Jg.2 ⟨h.inc,List.pairwise_singleton ..,λa ha b' hb'=>?_⟩,λr hr=>?_,λx hx hc=>?_,?_⟩
 ·rw[bH.1 hb'];cases e:p.getLast? with
  |none=>rw[List.getLast?_eq_none_iff.1 e]at ha;cases ha
  |some y=>
   have h2:=hab y e;rcases SK h.inc e a ha with rfl|h1
   ·exact h2
   ·exact Ed h1 h2
 ·rcases dX.1 hr with hr|hr
  ·exact h.sub r hr
  ·rw[bH.1 hr];exact hb
 ·rw[L8]at hc;have hc:=mI hc;cases e:opn p x with
  |true=>
   have h1:=hl x hx e;rw[acn]at h1;refine⟨b,by simp,?_,?_⟩
   ·by_cases h2:fK x b<0
    ·exact absurd (.inl h2) h1
    ·omega
   ·intro h2;by_cases h3:fK x b<0
    ·exact h1 (.inl h3)
    ·exact h1 (.inr ⟨by omega,h2⟩)
  |false=>
   obtain⟨r,m,q⟩:=h.done x hx e;exact⟨r,kv _ m,q⟩
 ·have:=SI (p:=opn p) (q:=opn (p++[b])) hb ho (by rw[L8];exact aT (by rw[Ij,sQ];omega)) (λx hx=>by
   rw[L8]at hx;have hx:=gQ hx;unfold opn;cases e:p.getLast? with
   |none=>rfl
   |some y=>exact dZ (Ij.2 (Ed (hab y e) (Ij.1 hx))))
  have:=h.cnt;omega
theorem zD.stop{l p:List Clue}{n:Nat}(h:zD l p n)(hn:∀x∈l,opn p x=false):xX l p:=⟨h.inc,h.sub,λx hx=>h.done x hx (hn x hx)⟩
theorem zD.full{l p:List Clue}(h:zD l p l.length):xX l p:=h.stop λx hx=>by
 have h1:=h.cnt;have h2:l.countP (opn p)=0:=by omega
 rw[List.countP_eq_zero]at h2;simpa using h2 x hx
end Kd
namespace Kd
open Canon
end Kd
namespace Kd
open Go Go.Ideal Canon Gph
def L9(a b:kM):Prop:=a.rule<b.rule\/(a.rule=b.rule/\a.at_<b.at_)
theorem SL{α:Type}(l:List α)(n:Nat):(l.zipIdx n).Pairwise λa b=>a.2<b.2:=by
 rw[yJ];intro i j hi hj hij;rw[List.getElem_zipIdx,List.getElem_zipIdx];show n+i<n+j;omega
theorem acp(p:List Clue)(r:aS)(ls:List (List Int)):(jD p r ls).Pairwise λa b=>a.1<b.1:=by
 unfold jD;rw[List.pairwise_filterMap];refine(SL ls 0).imp λ{a b} hab x hx y hy=>?_;have h:∀(a:List Int×Nat) x,rJ p r a=some x->x.1=a.2:=by
  intro a x hx;unfold rJ at hx;split at hx
  ·cases hx;rfl
  ·cases h:nH p r.aG (a.2:Int)with
   |none=>rw[h]at hx;cases hx
   |some v=>rw[h]at hx;cases hx;rfl
 rw[h a x hx,h b y hy];exact hab
theorem acr(k:bT)(p:List Clue)(r:aS)(i:Nat):(oH k p r i).Pairwise L9:=by
 unfold oH xW;rw[Cq];refine((acp p r _).filter _).imp λ{a b} h=>?_;right;exact⟨rfl,by show(a.1:Int)<b.1;omega⟩
theorem acs(k:bT)(p:List Clue):(jH k p).Pairwise L9:=by
 unfold jH;rw[List.pairwise_flatMap];refine⟨λa _=>acr k p a.1 a.2,(SL k.decl.rules 0).imp λ{a b} h x hx y hy=>?_⟩;left;unfold oH at hx hy;obtain⟨u,_,rfl⟩:=eG.1 hx;obtain⟨v,_,rfl⟩:=eG.1 hy;show(a.2:Int)<b.2;omega
theorem acu{g:bq}(kf:Int×Int->Int×Bool):(iG g kf).length<=g.cells.length:=by
 have h:=Hz kf _ (bA g) rfl;rw[nV]at h;unfold iG;rw[bU];have:(cK ((iQ kf (bA g)).map (·.1))).length=((iQ kf (bA g)).map (·.1)).length:=(wN _ _).length_eq;rw[this,bU];omega
theorem acv{g:bq}(hg:eP g)(hs:g.cells.length<=16)(k:Int):(dm g k).length<=96:=by
 have hn:=vV g;have hL:=λkf=>acu (g:=g) kf;have hM:=λkf=>Ea hg kf;unfold dm;split
 ·unfold j4;rw[bU,Cn];omega
 split
 ·have:=hL (λs=>(s.2,true));omega
 split
 ·have:=hL (λs=>(s.1,true));omega
 split
 ·unfold kH;split
  ·have:=hL (λs=>(s.1+s.2,true));omega
  split
  ·have h1:=hL (λs=>(0,decide (s.1=s.2)));have h2:=hL (λs=>(0,decide (s.1+s.2=g.w - 1)));have:=(HV (hM (λs=>(0,decide (s.1=s.2)))).2 (hM (λs=>(0,decide (s.1+s.2=g.w - 1)))).2 (iG g (λs=>(0,decide (s.1+s.2=g.w - 1)))).length).1;rw[bK]at this;omega
  ·simp
 split
 ·omega
 split
 ·unfold j5;rw[bU,List.length_zipIdx];omega
 split
 ·have:=Eb (bE:=bG g) Ec (bG g).length (bP _);rw[bK]at this;omega
 ·simp
theorem acw{d:bD}(hg:eP (aN d))(hs:(aN d).cells.length<=16)(hr:∀r∈d.regions,vZ (aN d) r.lists):∀l∈kI d,l.length<=96:=by
 intro l hl;unfold kI at hl;rcases dX.1 hl with hl|hl
 ·obtain⟨f,_,rfl⟩:=eG.1 hl;exact acv hg hs _
 ·obtain⟨r,hrm,rfl⟩:=eG.1 hl;have:=(hr r hrm).len;unfold dS;rw[bU];omega
theorem SN{k:bT}{p:List Clue}(hl:∀l∈k.lists,l.length<=96):∀j,j<=k.decl.rules.length->(kR k p j).length<=96*j
 |0,_=>cB _
 |j+1,hj=>by
  have:=SN (p:=p) hl j (by omega);rw[Ig (cz (by omega)),gD];have:(oH k p k.decl.rules[j] j).length<=96:=by
   unfold oH xW;rw[bU];refine kU (Ah _ _) (kU Ih ?_);rw[List.getD];cases h:k.lists[(fD k.decl.rules[j]).toNat]? with
   |none=>simp
   |some l=>exact hl l (bI h)
  omega
theorem acy{k:bT}{p:List Clue}(hl:∀l∈k.lists,l.length<=96)(hr:k.decl.rules.length<=16):(jH k p).length<=4096:=by
 have:=SN (p:=p) hl _ (bP _);rw[SG]at this;omega
end Kd
namespace Kd
open Go Go.Ideal
theorem Ma:∀{a b:List Int},a.Pairwise (·<·)->b.Pairwise (·<·)->(∀x,x∈a↔x∈b)->a=b
 |[],[],_,_,_=>rfl
 |[],y::b,_,_,h=>by have:=(h y).2 (dL ..);cases this
 |x::a,[],_,_,h=>by have:=(h x).1 (dL ..);cases this
 |x::a,y::b,ha,hb,h=>by
  have hxy:x=y:=by
   rcases dD.1 ((h x).1 (dL ..))with e|hx
   ·exact e
   rcases dD.1 ((h y).2 (dL ..))with e|hy
   ·exact e.symm
   have:=(rV.1 ha).1 y hy;have:=(rV.1 hb).1 x hx;omega
  subst hxy;rw[Ma (rV.1 ha).2 (rV.1 hb).2 λz=>?_];constructor
  ·intro hz;have:=(rV.1 ha).1 z hz;exact(dD.1 ((h z).1 (dI _ hz))).resolve_left (by omega)
  ·intro hz;have:=(rV.1 hb).1 z hz;exact(dD.1 ((h z).2 (dI _ hz))).resolve_left (by omega)
theorem acz{n:Nat}{x:Int}:x∈upTo' n↔0<=x/\x<(n:Int):=by
 unfold upTo';rw[eG];constructor
 ·rintro⟨i,hi,rfl⟩;have:=tN.1 hi;omega
 ·intro h;exact⟨x.toNat,tN.2 (by omega),by omega⟩
theorem acA(n:Nat):(upTo' n).Pairwise (·<·):=by
 unfold upTo';rw[Cq];exact List.Pairwise.imp (λh=>by omega) List.pairwise_lt_range
def dQ(n:Nat)(p:Int->Bool):List Int:=(upTo' n).filter p
theorem acB{n:Nat}{p:Int->Bool}{x:Int}:x∈dQ n p↔(0<=x/\x<(n:Int))/\p x=true:=by
 unfold dQ;rw[rU,acz]
theorem SQ(n:Nat)(p:Int->Bool):(dQ n p).Pairwise (·<·):=List.Pairwise.filter _ (acA n)
theorem zF(k:Nat)(p:Int->Bool):dQ (k+1) p=dQ k p++if p (k:Int)then[(k:Int)]else[]:=by
 unfold dQ;rw[uA,Af];congr 1;rw[I6];split<;>simp
theorem zG(n:Nat)(p:Int->Bool):(dQ n p).length<=n:=by
 unfold dQ;refine kU (Ah _ _) ?_;rw[rG];exact bP _
theorem Ik{l:List Int}(hi:l.Pairwise (·<·)){n:Nat}{p:Int->Bool}(h:∀x,x∈l↔(0<=x/\x<(n:Int))/\p x=true):l=dQ n p:=
 Ma hi (SQ n p) λx=>(h x).trans acB.symm
theorem acC(n:Nat)(holes:List Int):gB n holes=dQ n λi=>!decide (i∈holes):=rfl
theorem SS{n:Nat}{holes:List Int}(hi:holes.Pairwise (·<·))(hm:∀x∈holes,0<=x/\x<(n:Int)):dQ n (λi=>decide (i∈holes))=holes:=
 (Ik hi λx=>⟨λh=>⟨hm x h,dZ h⟩,λh=>gQ h.2⟩).symm
theorem acD{n:Nat}{holes:List Int}(hi:holes.Pairwise (·<·))(hm:∀x∈holes,0<=x/\x<(n:Int)):(gB n holes).length+holes.length=n:=by
 have h1:(dQ n λi=>decide (i∈holes)).length=holes.length:=by rw[SS hi hm]
 have h2:=List.length_eq_countP_add_countP (λi:Int=>decide (i∈holes)) (l:=upTo' n);rw[rG,List.countP_eq_length_filter,List.countP_eq_length_filter]at h2;have h3:gB n holes=List.filter (λa=>decide ¬decide (a∈holes)=true) (upTo' n):=by
  rw[acC];unfold dQ;congr 1;funext i
  by_cases h:i∈holes<;>simp[h]
 rw[h3];unfold dQ at h1;omega
structure acE(s w h:Int)(holes:List Int):Prop where
 sh:s=1\/s=2
 wi:1<=w/\w<=16
 he:1<=h/\h<=16
 inc:holes.Pairwise (·<·)
 mem:∀x∈holes,0<=x/\x<w*h
 ne:lU w h holes≠[]
theorem uC{s w h:Int}{holes:List Int}:acE s w h holes↔nG s w h holes:=by
 have key:(1<=w/\w<=16)->(1<=h/\h<=16)->holes.Pairwise (·<·)->(∀x∈holes,0<=x/\x<w*h)->(lU w h holes≠[]↔(holes.length:Int)<w*h):=by
  intro hw hh hi hm;have hb:=vS hw hh;obtain⟨m,hmm⟩:=tO (show 0<=w*h by omega);rw[hmm]at hm⊢;unfold lU;rw[hmm,Cj];have:=acD hi hm;rw[<- Ci];omega
 exact⟨λq=>⟨q.sh,q.wi,q.he,(key q.wi q.he q.inc q.mem).1 q.ne,q.inc,q.mem⟩,λq=>⟨q.sh,q.wi,q.he,q.inc,q.mem,(key q.wi q.he q.inc q.mem).2 q.len⟩⟩
def iH(g:bq)(c:Int):Int×Int:=((g.cells[c.toNat]?).map (mG g)).getD (0,0)
theorem BF{g:bq}{k:Nat}{x:Int}(h:g.cells[k]? =some x):iH g (k:Int)=mG g x:=by
 unfold iH;rw[Cj,h];rfl
theorem Eh{g:bq}{q:Int×(Int×Int)}:q∈bA g↔(0<=q.1/\q.1<(g.cells.length:Int))/\q.2=iH g q.1:=by
 constructor
 ·intro h;refine⟨H7 q h,?_⟩;obtain⟨k,hk⟩:=tQ.1 h;have h1:=vU hk;have hkl:=(bN.1 hk).1;rw[nV]at hkl;have hx:g.cells[k]? =some g.cells[k]:=cz hkl;rw[vT hx]at hk;have hk:=Option.some.inj hk;rw[h1,BF hx,<- hk]
 ·rintro⟨⟨h1,h2⟩,h3⟩;have hkl:q.1.toNat<g.cells.length:=by omega
  have hx:g.cells[q.1.toNat]? =some g.cells[q.1.toNat]:=cz hkl;have h4:=vT hx;rw[show((q.1.toNat:Nat):Int)=q.1 by omega]at h4;have h5:iH g q.1=mG g g.cells[q.1.toNat]:=by
   have:=BF hx
   rwa [show((q.1.toNat:Nat):Int)=q.1 by omega]at this
  rw[<- h5,<- h3]at h4;exact bI h4
def wh(sh:Int)(s t:Int×Int):Bool:=
 if sh=1 then(decide (t.2 - s.2=0)&&(decide (t.1 - s.1=1)||decide (t.1 - s.1= -1)))||(decide (t.1 - s.1=0)&&(decide (t.2 - s.2=1)||decide (t.2 - s.2= -1)))
 else(decide (t.1 - s.1=1)&&decide (t.2 - s.2=0))||(decide (t.1 - s.1= -1)&&decide (t.2 - s.2=0))||(decide (t.1 - s.1=0)&&decide (t.2 - s.2=1))||(decide (t.1 - s.1=0)&&decide (t.2 - s.2= -1))||(decide (t.1 - s.1=1)&&decide (t.2 - s.2= -1))||(decide (t.1 - s.1= -1)&&decide (t.2 - s.2=1))
theorem acF{g:bq}{s t:Int×Int}:wh g.shape s t=true↔∃d∈dW.take (dP g),t=(s.1+d.1,s.2+d.2):=by
 obtain⟨s1,s2⟩:=s;obtain⟨t1,t2⟩:=t;unfold wh dP;by_cases h:g.shape=1
 ·rw[if_pos h,if_pos h];simp[dW];omega
 ·rw[if_neg h,if_neg h];simp[dW];omega
theorem acG{g:bq}(hg:eP g){p:Int×(Int×Int)}:kP g p=dQ g.cells.length λb=>wh g.shape p.2 (iH g b):=by
 refine Ik (L6 hg p) λc=>?_;rw[LZ hg,acF];constructor
 ·rintro⟨d,hd,q,hq,h1,rfl⟩;obtain⟨h2,h3⟩:=Eh.1 hq;exact⟨h2,d,hd,h3▸h1⟩
 ·rintro⟨h2,d,hd,h1⟩;exact⟨d,hd,(c,iH g c),Eh.2 ⟨h2,rfl⟩,h1,rfl⟩
theorem SV{g:bq}(hg:eP g){k:Nat}(hk:k<g.cells.length):(bG g)[k]? =some (dQ g.cells.length λb=>wh g.shape (iH g k) (iH g b)):=by
 unfold bG;have hx:g.cells[k]? =some g.cells[k]:=cz hk;rw[fo,vT hx,jO,acG hg,BF hx]
theorem D6{α β:Type}[DecidableEq α](b:α)(v:β):∀m:List (α×β),(upd b v m).map (·.1)=if b∈m.map (·.1)then m.map (·.1)else m.map (·.1)++[b]
 |[]=>by
  rw[if_neg (by simp)];rfl
 |(a,u)::m=>by
  unfold upd;by_cases e:b=a
  ·rw[if_pos e,if_pos (by rw[e];simp),e];rfl
  ·rw[if_neg e,gN,gN,D6 b v m];by_cases h:b∈m.map (·.1)
   ·rw[if_pos h,if_pos (dI _ h)]
   ·rw[if_neg h,if_neg (by rw[dD,not_or];exact⟨e,h⟩)];rfl
def nW(kf:Int×Int->Int×Bool)(ps:List (Int×(Int×Int)))(n:Int):List Int:=(ps.filter λp=>(kf p.2).2&&decide ((kf p.2).1=n)).map (·.1)
theorem Mc(kf:Int×Int->Int×Bool)(ps:List (Int×(Int×Int)))(p:Int×(Int×Int))(n:Int):nW kf (ps++[p]) n=nW kf ps n++if((kf p.2).2&&decide ((kf p.2).1=n))=true then[p.1]else[]:=by
 unfold nW;rw[Af,dY];congr 1;rw[I6];split<;>simp
theorem acH(kf:Int×Int->Int×Bool)(m:Nat):∀ps:List (Int×(Int×Int)),ps.length=m->((iQ kf ps).map (·.1)).Nodup/\∀n,(n∈(iQ kf ps).map (·.1)↔nW kf ps n≠[])/\(dB n (iQ kf ps)).getD []=nW kf ps n:=by
 induction m with
 |zero=>
  intro ps h;rw[jI.1 h];exact⟨tT,λn=>⟨by simp[iQ,nW],rfl⟩⟩
 |succ m ih=>
  intro ps h;obtain⟨qs,p,rfl⟩:∃qs p,ps=qs++[p]:=⟨ps.dropLast,ps.getLast (by intro e;rw[e]at h;cases h),(Ai _).symm⟩
  obtain⟨h1,h2⟩:=ih qs (by simpa using h);rw[D9];unfold uy;cases hb:(kf p.2).2 with
  |false=>
   refine⟨h1,λn=>?_⟩;rw[Mc,hb,if_neg (by simp),gK];exact h2 n
  |true=>
   dsimp only[cond];rw[D6];refine⟨?_,λn=>⟨?_,?_⟩⟩
   ·split
    ·exact h1
    ·rename_i hn;rw[iJ];exact⟨h1,by simp,λa ha b hb'=>by rw[bH.1 hb'];exact λe=>hn (e▸ha)⟩
   ·rw[Mc,hb];by_cases e:(kf p.2).1=n
    ·have hc:(true&&decide ((kf p.2).1=n))=true:=by simp[e]
     rw[if_pos hc];split
     ·rename_i hn;rw[e]at hn;exact⟨λ_=>by simp,λ_=>hn⟩
     ·rw[e];exact⟨λ_=>by simp,λ_=>oP _ (bH.2 rfl)⟩
    ·have hc:¬(true&&decide ((kf p.2).1=n))=true:=by simp[e]
     rw[if_neg hc,gK];split
     ·exact(h2 n).1
     ·rw[dX,(h2 n).1];simp only[bH];exact⟨λh=>h.resolve_right (λx=>e x.symm),.inl⟩
   ·rw[vW,Mc,hb];by_cases e:(kf p.2).1=n
    ·rw[if_pos e.symm,if_pos (by simp[e]),tK,(h2 _).2,e]
    ·rw[if_neg (λx=>e x.symm),if_neg (by simp[e]),gK];exact(h2 n).2
theorem SX{g:bq}(kf:Int×Int->Int×Bool)(n:Int):nW kf (bA g) n=dQ g.cells.length λc=>(kf (iH g c)).2&&decide ((kf (iH g c)).1=n):=by
 refine Ik ?_ λc=>?_
 ·unfold nW;rw[Cq];refine List.Pairwise.filter _ ?_;rw[yJ];intro i j hi hj hij;have h1:=vU (cz hi);have h2:=vU (cz hj);rw[h1,h2];omega
 ·unfold nW;rw[eG];constructor
  ·rintro⟨p,hp,rfl⟩;obtain⟨h1,h2⟩:=rU.1 hp;obtain⟨h3,h4⟩:=Eh.1 h1;rw[<- h4];exact⟨h3,h2⟩
  ·rintro⟨h1,h2⟩;exact⟨(c,iH g c),rU.2 ⟨Eh.2 ⟨h1,rfl⟩,h2⟩,rfl⟩
def uD(lo:Int)(k:Nat):List Int:=(List.range k).map λi:Nat=>lo+(i:Int)
theorem acI(lo:Int)(k:Nat):uD lo (k+1)=uD lo k++[lo+(k:Int)]:=by
 unfold uD;rw[Je,dY];rfl
theorem acJ{lo:Int}{k:Nat}{x:Int}:x∈uD lo k↔lo<=x/\x<lo+(k:Int):=by
 unfold uD;rw[eG];constructor
 ·rintro⟨i,hi,rfl⟩;have:=tN.1 hi;omega
 ·intro h;exact⟨(x - lo).toNat,tN.2 (by omega),by omega⟩
theorem acK(lo:Int)(k:Nat):(uD lo k).Pairwise (·<·):=by
 unfold uD;rw[Cq];exact List.Pairwise.imp (λh=>by omega) List.pairwise_lt_range
def xY(L:Int->List Int)(lo:Int)(k:Nat):List (List Int):=((uD lo k).map L).filter λl=>!l.isEmpty
theorem SY(L:Int->List Int)(lo:Int)(k:Nat):xY L lo (k+1)=xY L lo k++if L (lo+(k:Int))=[]then[]else[L (lo+(k:Int))]:=by
 unfold xY;rw[acI,dY,Af];congr 1;rw[oh,I6];cases h:L (lo+(k:Int))with
 |nil=>rfl
 |cons x l=>simp
theorem S9{g:bq}(kf:Int×Int->Int×Bool){lo:Int}{k:Nat}(hk:∀p∈bA g,(kf p.2).2=true->lo<=(kf p.2).1/\(kf p.2).1<lo+(k:Int)):iG g kf=xY (nW kf (bA g)) lo k:=by
 obtain⟨h1,h2⟩:=acH kf _ (bA g) rfl;have h3:cK ((iQ kf (bA g)).map (·.1))=(uD lo k).filter λn=>!(nW kf (bA g) n).isEmpty:=by
  refine Ma (Ib h1) (List.Pairwise.filter _ (acK lo k)) λn=>?_;rw[uz,(h2 n).1,rU,acJ];have hne:((!(nW kf (bA g) n).isEmpty)=true)↔nW kf (bA g) n≠[]:=by
   cases nW kf (bA g) n<;>simp
  rw[hne];refine⟨λh=>⟨?_,h⟩,λh=>h.2⟩;obtain⟨c,hc⟩:=List.exists_mem_of_ne_nil _ h;unfold nW at hc;obtain⟨p,hp,_⟩:=eG.1 hc;obtain⟨hp1,hp2⟩:=rU.1 hp;simp only[gG,wJ]at hp2;rw[<- hp2.2];exact hk p hp1 hp2.1
 unfold iG xY;rw[h3,List.filter_map];refine ES λn _=>?_;exact(h2 n).2
theorem Ta{g:bq}(c:Int×Int->Bool):iG g (λs=>(0,c s))=if dQ g.cells.length (λb=>c (iH g b))=[]then[]else[dQ g.cells.length λb=>c (iH g b)]:=by
 rw[S9 (lo:=0) (k:=1) (λs=>(0,c s)) (λp _ _=>⟨Int.le_refl 0,by omega⟩)];rw[show(1:Nat)=0+1 from rfl,SY];have e:nW (λs=>(0,c s)) (bA g) (0+((0:Nat):Int))=dQ g.cells.length λb=>c (iH g b):=by
  rw[SX];congr 1;funext b
  simp
 rw[e];rfl
theorem acL{g:bq}(hg:eP g){k:Nat}{l:List Int}(hl:(bG g)[k]? =some l):cK (l++[(k:Int)])=dQ g.cells.length λb=>decide (b=(k:Int))||decide (b∈l):=by
 have hk:k<g.cells.length:=by have:=(bN.1 hl).1;rwa [vV]at this
 have hls:∀c∈l,(0<=c/\c<(g.cells.length:Int)):=(H8 l (bI hl)).2;have hlt:l.Pairwise (·<·):=by
  have:=SV hg hk;rw[hl]at this;rw[Option.some.inj this];exact SQ _ _
 have hkl:(k:Int)∉l:=λh=>by
  obtain⟨j,hj⟩:=tQ.1 h;exact(SA hg k l hl j k hj).2.2.1 rfl
 refine Ik (Ib ?_) λc=>?_
 ·rw[iJ];exact⟨hlt.imp (λh=>by omega),by simp,λa ha b hb=>by rw[bH.1 hb];exact λe=>hkl (e▸ha)⟩
 ·rw[uz,dX,bH];simp only[uK,wJ];constructor
  ·rintro(h|rfl)
   ·exact⟨hls c h,.inr h⟩
   ·exact⟨by omega,.inl rfl⟩
  ·rintro⟨_,h|h⟩
   ·exact .inr h
   ·exact .inl h
