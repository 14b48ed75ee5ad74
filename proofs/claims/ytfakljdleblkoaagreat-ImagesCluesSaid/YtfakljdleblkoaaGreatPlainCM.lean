/-
  Puzzles, in plain lists: clues that are right.
-/
import Derived.Test.YtfakljdleblkoaaGreatPlainBM
import Derived.Test.YtfakljdleblkoaaGreatPlainAM
set_option linter.all false
namespace Kd
open Go Go.Ideal Canon
def bG:Enc Clue:=⟨3,Value,λg v=>[.int .i64 g.aN,.int .i64 g.at_,v],λg v=>[ah ae v g.values],λ_ _=>rfl⟩
abbrev pK(g:Clue)(v:Value):Value:=.agg ⟨[.int .i64 g.aN,.int .i64 g.at_,v]⟩
def uq:List Int->Int
 |[]=>0
 |a::l=>if a≠0 then a else uq l
def eZ(a b:Clue):Int:=uq [eD a.aN b.aN,eD a.at_ b.at_]
theorem Wl(a b:Clue):eZ a b=fG eD [a.aN,a.at_] [b.aN,b.at_]:=by
 unfold eZ;simp only[uq,fG]
theorem wJ{a b:Clue}:eZ a b<0↔a.aN<b.aN\/(a.aN=b.aN/\a.at_<b.at_):=by
 unfold eZ eD;simp only[uq];split<;>split at *<;>(try split at *)<;>(try split at *)<;>(try split at *)<;>omega
theorem J8{a b c:Clue}(h1:eZ a b<0)(h2:eZ b c<0):eZ a c<0:=by
 rw[wJ]at *;omega
def kY(k:aU)(g:Clue):Prop:=∃(c:iI) (l:List (List Int)),0<=g.aN/\k.decl.bI[g.aN.toNat]? =some c/\k.lists[c.family.toNat]? =some l/\0<=g.at_/\g.at_<l.length/\
 ((c.type=1/\g.values.length=1/\∀x∈g.values,0<=x/\x<=(k.decl.symbols.length:Int) - 1)\/(c.type=2/\g.values.length=1/\∀x∈g.values,c.lo<=x/\x<=c.hi)\/
   (c.type≠1/\c.type≠2/\g.values.length<=8/\∀x∈g.values,1<=x/\x<=256))
structure iQ(k:aU)(p:List Clue):Prop where
 len:p.length<=512
 right:∀g∈p,kY k g
 sorted:∀(i:Nat) a b,p[i]? =some a->p[i+1]? =some b->eZ a b<0
def F4(k:aU):Prop:=∀c∈k.decl.bI,0<=c.family/\c.family<k.lists.length
end Kd
namespace Kd
open Go Go.Ideal Canon
def OZ(k:aU)(i:Int):Int:=match k.decl.bI[i.toNat]? with|some c=>c.family|none=>0
def jv(k:aU)(g:Clue):List Int:=(k.lists.getD (OZ k g.aN).toNat []).getD g.at_.toNat []
def fV(k:aU)(p:List Clue)(r:bV):List (List Int×List Int):=
 if r.aN<0 then(k.lists.getD r.family.toNat []).map λl=>(l,[r.n])else(p.filter λg=>decide (g.aN=r.aN)).map λg=>(jv k g,g.values)
theorem fC{α:Type}{l:List α}{n:Nat}{x d:α}(h:l[n]? =some x):l.getD n d=x:=by simp[List.getD,h]
theorem kY.cells{k:aU}{g:Clue}(h:kY k g):∃(c:iI) (l:List (List Int)) (ps:List Int),k.decl.bI[g.aN.toNat]? =some c/\k.lists[c.family.toNat]? =some l/\l[g.at_.toNat]? =some ps/\0<=g.aN/\0<=g.at_/\g.at_<l.length/\jv k g=ps:=by
 obtain⟨c,l,h1,h2,h3,h4,h5,_⟩:=h;have h6:l[g.at_.toNat]? =some (l[g.at_.toNat]'(by omega)):=bC _;refine⟨c,l,_,h2,h3,h6,h1,h4,h5,?_⟩;unfold jv OZ;rw[h2];dsimp only;rw[fC h3,fC h6]
abbrev EA:=(List Int×Value)×(List Int×Value)
def mQ(x:EA):List Int×List Int:=(x.1.1,x.2.1)
def J9(x:EA):List Value:=[x.1.2,x.2.2]
def F5(x:EA):List aD:=[ah ae x.1.2 x.1.1,ah ae x.2.2 x.2.1]
def pad(l:List (List Int×List Int)):List EA:=l.map λy=>((y.1,.nilFunc),(y.2,.nilFunc))
theorem Wm(l:List (List Int×List Int)):(pad l).map mQ=l:=by
 unfold pad;rw[qE];have:mQ∘(λy:List Int×List Int=>(((y.1,Value.nilFunc),(y.2,Value.nilFunc)):EA))=id:=rfl;rw[this,GM]
end Kd
namespace Kd
open Go Go.Ideal Canon
def aP(grid:List Int)(c:Int):Int:=grid.getD c.toNat 0
theorem jJ{grid:List Int}{n:Nat}{x:Int}(h:grid[n]? =some x):aP grid (n:Int)=x:=by unfold aP;exact fC h
def F6(n op b:Int):Bool:=(decide (op=1)&&decide (n=b))||(decide (op=2)&&decide (n<=b))||(decide (op=3)&&decide (b<=n))
def nU(aA:List (List Int))(grid:List Int)(c:Int->Int->Bool):Bool:=aA.zipIdx.all λp=>p.1.all λb=>c (aP grid (p.2:Int)) (aP grid b)
theorem agp{aA:List (List Int)}{grid:List Int}{c:Int->Int->Bool}{j:Nat}{l:List Int}(h:aA[j]? =some l):nU (aA.take (j+1)) grid c=(nU (aA.take j) grid c&&l.all λb=>c (aP grid (j:Int)) (aP grid b)):=by
 have hj:=(aW.1 h).1;unfold nU;rw[gZ h,GN,List.all_append,iL,w9 (by omega),fw,LG,List.zipIdx_nil,Em,List.all_nil,Bool.and_true]
theorem agq{aA:List (List Int)}{grid:List Int}{c:Int->Int->Bool}{j i:Nat}{l:List Int}{b:Int}(h:aA[j]? =some l)(hb:l[i]? =some b)(hc:c (aP grid (j:Int)) (aP grid b)=false):nU aA grid c=false:=by
 unfold nU;rw[List.all_eq_false];refine⟨(l,j),?_,?_⟩
 ·exact vV.2 h
 ·simp only[Bool.not_eq_true,List.all_eq_false];exact⟨b,aR hb,by simp[hc]⟩
end Kd
namespace Kd
open Go Go.Ideal
def zR(n:Nat)(l:List Int):Prop:=l.length<=4096/\∀c∈l,0<=c/\c<(n:Int)
theorem Ka{g:cO}:∀p∈bA g,0<=p.1/\p.1<(g.cells.length:Int):=by
 intro p hp;obtain⟨k,hk⟩:=wZ.1 hp;have hkl:=(aW.1 hk).1;rw[qV]at hkl;have:=x8 hk;omega
theorem agr(kf:Int×Int->Int×Bool)(n:Nat):∀ps:List (Int×(Int×Int)),ps.length=n->∀a,∀c∈(dU a (jY kf ps)).getD [],∃p∈ps,p.1=c:=by
 induction n with
 |zero=>
  intro ps h a c hc;rw[lQ.1 h]at hc;have hc:c∈([]:List Int):=hc;cases hc
 |succ n ih=>
  intro ps h a c hc;obtain⟨qs,p,rfl⟩:∃qs p,ps=qs++[p]:=⟨ps.dropLast,ps.getLast (by intro e;rw[e]at h;cases h),(Et _).symm⟩
  have hq:qs.length=n:=by simpa using h
  have hih:∀a,∀c∈(dU a (jY kf qs)).getD [],∃p'∈qs++[p],p'.1=c:=λa c hc=>by
   obtain⟨q,h1,h2⟩:=ih qs hq a c hc;exact⟨q,kK _ h1,h2⟩
  rw[J4]at hc;unfold x9 at hc;cases hb:(kf p.2).2 with
  |false=>
   rw[hb]at hc;exact hih a c hc
  |true=>
   rw[hb]at hc;have hc:c∈(dU a (upd (kf p.2).1 ((dU (kf p.2).1 (jY kf qs)).getD []++[p.1]) (jY kf qs))).getD []:=hc;rw[zP]at hc;by_cases e:a=(kf p.2).1
   ·rw[if_pos e,wX]at hc;rcases gH.1 hc with hc|hc
    ·exact hih _ c hc
    ·exact⟨p,by simp,(bO.1 hc).symm⟩
   ·rw[if_neg e]at hc;exact hih a c hc
theorem F7{g:cO}(hg:ik g)(kf:Int×Int->Int×Bool):∀l∈ku g kf,zR g.cells.length l:=by
 intro l hl;have hlen:=(J5 hg kf).2 l hl;refine⟨by omega,λc hc=>?_⟩;unfold ku at hl;obtain⟨n,_,rfl⟩:=cZ.1 hl;obtain⟨p,hp,rfl⟩:=agr kf _ (bA g) rfl n c hc;exact Ka p hp
theorem ags{a b:List (List Int)}{l:List Int}(h:l∈mG a b):l∈a\/l∈b:=by
 unfold mG at h;induction b generalizing a with
 |nil=>exact .inl h
 |cons x b ih=>
  rw[sN]at h;rcases ih h with h|h
  ·unfold yf at h;split at h
   ·exact .inl h
   ·rcases gH.1 h with h|h
    ·exact .inl h
    ·exact .inr (by rw[bO.1 h];simp)
  ·exact .inr (bU _ h)
theorem Wn{o:Option Value}{n:Int}(h:numOf o=some n):o=some (.int .i64 n):=by
 unfold numOf at h;split at h
 ·cases h;rfl
 ·cases h
theorem agt{g:cO}{p:Int×(Int×Int)}:zR g.cells.length (mF g p):=by
 unfold mF;refine⟨?_,λc hc=>?_⟩
 ·have h1:(bD (gq (fq (bA g)) p.2 (eT.take (dY g)))).length=(gq (fq (bA g)) p.2 (eT.take (dY g))).length:=(Ap _ _).length_eq;have h2:=JZ (fq (bA g)) p.2 (eT.take (dY g));have h3:=Bu g;rw[iL]at h2;omega
 ·rw[Dx]at hc;unfold gq at hc;obtain⟨d,_,hd⟩:=LM.1 hc;obtain⟨c',h1,q,hq,h2⟩:=V3 _ _ (Wn hd);injection h1 with _ h1;rw[h1,<- h2];exact Ka q hq
theorem Kb{g:cO}:∀l∈fH g,zR g.cells.length l:=by
 intro l hl;obtain⟨p,_,rfl⟩:=cZ.1 hl;exact agt
theorem agu(l:List Int):(bD l).length=l.length:=(Ap l _).length_eq
theorem Wo{g:cO}(hg:ik g)(k:Int):∀l∈gN g k,zR g.cells.length l:=by
 have hlen:=hg.len;have hnl:=wH g;have hnm:=J6 (g:=g);intro l hl;unfold gN at hl;split at hl
 ·unfold lH at hl;obtain⟨i,hi,rfl⟩:=cZ.1 hl;have:=o9.1 hi;exact⟨by simp,λc hc=>by rw[bO.1 hc];omega⟩
 split at hl
 ·exact F7 hg _ l hl
 split at hl
 ·exact F7 hg _ l hl
 split at hl
 ·unfold uo at hl;split at hl
  ·exact F7 hg _ l hl
  split at hl
  ·rcases ags hl with hl|hl
   ·exact F7 hg _ l hl
   ·exact F7 hg _ l hl
  ·cases hl
 split at hl
 ·exact Kb l hl
 split at hl
 ·unfold pJ at hl;obtain⟨⟨x,i⟩,hx,rfl⟩:=cZ.1 hl;have hx:=vV.1 hx;have hxm:=aR hx;have hi:=(aW.1 hx).1;have h6:=hnm x hxm;refine⟨by rw[agu];simp;omega,λc hc=>?_⟩;rw[Dx]at hc;rcases gH.1 hc with hc|hc
  ·exact(Kb x hxm).2 c hc
  ·rw[bO.1 hc];dsimp only;omega
 split at hl
 ·unfold kF at hl;obtain⟨⟨x,i⟩,hx,hl⟩:=List.mem_flatMap.1 hl;have hx:=vV.1 hx;have hxm:=aR hx;have hi:=(aW.1 hx).1;unfold mH at hl;obtain⟨j,hj,rfl⟩:=cZ.1 hl;have hj:=(mW.1 hj).1;refine⟨by simp,λc hc=>?_⟩;simp only[bN,LK,or_false]at hc;rcases hc with rfl|rfl
  ·omega
  ·exact(Kb x hxm).2 _ hj
 ·rw[bO.1 hl];refine⟨by rw[wI];omega,λc hc=>?_⟩;unfold upTo' at hc;obtain⟨i,hi,rfl⟩:=cZ.1 hc;have:=o9.1 hi;omega
theorem Wp{g:cO}(hg:ik g){rs:List (List Int)}(hr:yj g rs):∀l∈iE g rs,zR g.cells.length l:=by
 intro l hl;obtain⟨ps,hps,rfl⟩:=cZ.1 hl;have hP:=hr.all ps hps;have h1:=OY hP.mem hP.nd;have h2:=hg.len;refine⟨by unfold iP;rw[bJ];omega,λc hc=>?_⟩;obtain⟨p,hp,rfl⟩:=cZ.1 hc;have:=OX (hP.mem p hp);omega
theorem O0{d:dN}(hg:ik (bE d))(hr:∀r∈d.regions,yj (bE d) r.lists):∀l∈nT d,∀ps∈l,zR (bE d).cells.length ps:=by
 intro l hl ps hps;unfold nT at hl;rcases gH.1 hl with hl|hl
 ·obtain⟨f,_,rfl⟩:=cZ.1 hl;exact Wo hg _ ps hps
 ·obtain⟨r,hrm,rfl⟩:=cZ.1 hl;exact Wp hg (hr r hrm) ps hps
theorem agv{g:cO}(hw:1<=g.w){x y:Int}(hx:0<=x)(hy:0<=y)(h:oP g x=oP g y):x=y:=by
 unfold oP at h;have h1:=congrArg Prod.fst h;have h2:=congrArg Prod.snd h;dsimp only at h1 h2;rw[Cf hx,Cf hy]at h2;rw[Cf hx,Cf hy,RA hx,RA hy,h2]at h1;have h3:x%g.w=y%g.w:=by
  split at h1<;>omega
 have e1:=RB x g.w;have e2:=RB y g.w;rw[h2,h3]at e1;omega
theorem F8{g:cO}(hg:ik g){p q:Int×(Int×Int)}(hp:p∈bA g)(hq:q∈bA g)(h:p.1=q.1\/p.2=q.2):p=q:=by
 obtain⟨k,hk⟩:=wZ.1 hp;obtain⟨j,hj⟩:=wZ.1 hq;have hkl:=(aW.1 hk).1;have hjl:=(aW.1 hj).1;rw[qV]at hkl hjl;rcases h with h|h
 ·have h1:=x8 hk;have h2:=x8 hj;have:k=j:=by omega
  subst this;rw[hk]at hj;exact Option.some.inj hj
 ·have hx:g.cells[k]? =some g.cells[k]:=bC hkl;have hy:g.cells[j]? =some g.cells[j]:=bC hjl;have hkk:=hk;have hjj:=hj;rw[Bt hx]at hk;rw[Bt hy]at hj;have hk:=Option.some.inj hk;have hj:=Option.some.inj hj;have hs:oP g g.cells[k]=oP g g.cells[j]:=by rw[<- hk,<- hj]at h;exact h
  have he:=agv (by have:=hg.make.wi;omega) (hg.cell _ (uC _)).1 (hg.cell _ (uC _)).1 hs;have qW:g.cells.Pairwise (·<·):=by rw[hg.cells];exact OL _ _
  have hkj:k=j:=by
   apply Classical.byContradiction;intro hne;have:=yV.1 qW;rcases Nat.lt_or_gt_of_ne hne with hl|hl
   ·have:=this k j hkl hjl hl;omega
   ·have:=this j k hjl hkl hl;omega
  subst hkj;rw[hkk]at hjj;exact Option.some.inj hjj
theorem agw(n:Nat):∀xs:List (Int×(Int×Int)),xs.length=n->(∀p∈xs,∀q∈xs,p.2=q.2->p=q)->∀p∈xs,dU p.2 (fq xs)=some (.int .i64 p.1):=by
 induction n with
 |zero=>intro xs h _ p hp;rw[lQ.1 h]at hp;cases hp
 |succ n ih=>
  intro xs h hi p hp;obtain⟨ys,q,rfl⟩:∃ys q,xs=ys++[q]:=⟨xs.dropLast,xs.getLast (by intro e;rw[e]at h;cases h),(Et _).symm⟩
  rw[OM,zP];by_cases e:p.2=q.2
  ·have:=hi p hp q (by simp) e;subst this;rw[if_pos rfl]
  ·rw[if_neg e];refine ih ys (by simpa using h) (λa ha b hb=>hi a (kK _ ha) b (kK _ hb)) p ?_;rcases gH.1 hp with hp|hp
   ·exact hp
   ·rw[bO.1 hp]at e;exact absurd rfl e
theorem agx(n:Nat):∀xs:List (Int×(Int×Int)),xs.length=n->∀a v,dU a (fq xs)=some v->∃p∈xs,p.2=a/\v=.int .i64 p.1:=by
 induction n with
 |zero=>
  intro xs h a v hv;rw[lQ.1 h]at hv;cases hv
 |succ n ih=>
  intro xs h a v hv;obtain⟨ys,q,rfl⟩:∃ys q,xs=ys++[q]:=⟨xs.dropLast,xs.getLast (by intro e;rw[e]at h;cases h),(Et _).symm⟩
  rw[OM,zP]at hv;by_cases e:a=q.2
  ·rw[if_pos e]at hv;exact⟨q,by simp,e.symm,(Option.some.inj hv).symm⟩
  ·rw[if_neg e]at hv;obtain⟨p,h1,h2⟩:=ih ys (by simpa using h) a v hv;exact⟨p,kK _ h1,h2⟩
theorem Kc{g:cO}(hg:ik g){s:Int×Int}{d:Int×Int}{n:Int}:numOf (dU (s.1+d.1,s.2+d.2) (fq (bA g)))=some n↔∃q∈bA g,q.2=(s.1+d.1,s.2+d.2)/\q.1=n:=by
 constructor
 ·intro h;obtain⟨q,hq,h1,h2⟩:=agx _ (bA g) rfl _ _ (Wn h);injection h2 with _ h2;exact⟨q,hq,h1,h2.symm⟩
 ·rintro⟨q,hq,h1,h2⟩;rw[<- h1,agw _ (bA g) rfl (λa ha b hb e=>F8 hg ha hb (.inr e)) q hq,<- h2];rfl
theorem Wq{g:cO}(hg:ik g){p:Int×(Int×Int)}{n:Int}:n∈mF g p↔∃d∈eT.take (dY g),∃q∈bA g,q.2=(p.2.1+d.1,p.2.2+d.2)/\q.1=n:=by
 unfold mF;rw[Dx];unfold gq;rw[LM];constructor
 ·rintro⟨d,hd,h⟩;exact⟨d,hd,(Kc hg).1 h⟩
 ·rintro⟨d,hd,h⟩;exact⟨d,hd,(Kc hg).2 h⟩
theorem Ws(g:cO):dY g=4\/dY g=6:=by unfold dY;split<;>simp
theorem agy{m:Nat}(hm:m=4\/m=6):∀d∈eT.take m,(-d.1, -d.2)∈eT.take m:=by
 rcases hm with rfl|rfl<;>decide
theorem agz{m:Nat}:∀d∈eT.take m,¬(d.1=0/\d.2=0):=by
 intro d hd;have:=LF hd;revert d;have:∀d∈eT,¬(d.1=0/\d.2=0):=by decide
 intro d _ hd;exact this d hd
theorem agA{m:Nat}(hm:m=4\/m=6):(eT.take m).Nodup:=by
 rcases hm with rfl|rfl<;>decide
theorem O1(l:List Int):(bD l).Pairwise (λx y=>x<=y):=by
 have:=ZB (le:=λx y:Int=>decide (x<=y)) (λa b c h1 h2=>by simp at h1 h2⊢;omega) (λa b=>by simp;omega) l;exact this.imp (λh=>by simpa using h)
theorem O3{l:List Int}(h:l.Nodup):(bD l).Pairwise (·<·):=by
 have h1:=O1 l;have h2:(bD l).Nodup:=(Ap l _).symm.nodup h;have h3:(bD l).Pairwise (λx y=>x<=y/\x≠y):=List.Pairwise.and h1 h2;exact h3.imp (λh=>by omega)
theorem Wt{g:cO}(hg:ik g)(p:Int×(Int×Int)):(mF g p).Pairwise (·<·):=by
 unfold mF;refine O3 ?_;unfold gq;refine List.Pairwise.filterMap _ ?_ (agA (Ws g));intro d1 d2 hne b hb b' hb' e;subst e;obtain⟨q1,h1,h2,h3⟩:=(Kc hg).1 hb;obtain⟨q2,k1,k2,k3⟩:=(Kc hg).1 hb';have:=F8 hg h1 k1 (.inl (by rw[h3,k3]));subst this;rw[h2]at k2;apply hne;have e1:=congrArg Prod.fst k2;have e2:=congrArg Prod.snd k2;dsimp only at e1 e2;exact Prod.ext (by omega) (by omega)
theorem Wu{g:cO}(hg:ik g)(i:Nat)(l:List Int)(hl:(fH g)[i]? =some l)(k:Nat)(n:Int)(hn:l[k]? =some n):
 0<=n/\n<(fH g).length/\n≠i/\(∀m,0<k->l[k - 1]? =some m->m<n)/\∀l',(fH g)[n.toNat]? =some l'->(i:Int)∈l':=by
 have hnm:=wH g;unfold fH at hl;rw[dR]at hl;obtain⟨p,hp,rfl⟩:=jU.1 hl;have hp1:=x8 hp;have hpm:=aR hp;obtain⟨d,hd,q,hq,hq2,hq1⟩:=(Wq hg).1 (aR hn);have hqi:=Ka q hq;refine⟨by omega,by omega,λe=>?_,λm hk hm=>?_,λl' hl'=>?_⟩
 ·have:q=p:=F8 hg hq hpm (.inl (by omega));subst this;have e1:=congrArg Prod.fst hq2;have e2:=congrArg Prod.snd hq2;dsimp only at e1 e2;exact agz d hd ⟨by omega,by omega⟩
 ·have hlt:=Wt hg p;obtain⟨a1,a2⟩:=aW.1 hm;obtain⟨b1,b2⟩:=aW.1 hn;have:=yV.1 hlt (k - 1) k a1 b1 (by omega);rw[a2,b2]at this;exact this
 ·unfold fH at hl';rw[dR]at hl';obtain⟨q',hq',rfl⟩:=jU.1 hl';have h1:=x8 hq';have:q'=q:=F8 hg (aR hq') hq (.inl (by omega));subst this;rw[Wq hg];refine⟨(-d.1, -d.2),agy (Ws g) d hd,p,hpm,?_,hp1⟩;rw[hq2];dsimp only;exact Prod.ext (by dsimp only;omega) (by dsimp only;omega)
end Kd
namespace Kd
open Go Go.Ideal Canon Gph
end Kd
namespace Kd
open Go Go.Ideal Canon Gph
end Kd
namespace Kd
open Go Go.Ideal Canon Gph
theorem O4(n:Nat):(upTo' n).Nodup:=by
 unfold upTo';refine List.Pairwise.map _ (λa b h=>?_) List.nodup_range;intro e;apply h;omega
theorem agB{n i:Nat}{x:Int}(h:(upTo' n)[i]? =some x):x=i:=by
 unfold upTo' at h;rw[dR]at h;obtain⟨j,hj,rfl⟩:=jU.1 h;have:=aW.1 hj;obtain⟨h1,h2⟩:=this;rw[Ry]at h2;omega
theorem Wv{g:cO}(hg:ik g)(p:Int×(Int×Int)):(mF g p).Nodup:=(Wt hg p).imp (λh=>by omega)
theorem agC{l:List Int}(h:l.Nodup):(bD l).Nodup:=(O3 h).imp (λh=>by omega)
theorem agD{aA:List (List Int)}{l:List Int}(h:l∈kF aA):∃(i:Nat) (x:List Int) (j:Int),aA[i]? =some x/\j∈x/\(i:Int)<j/\l=[(i:Int),j]:=by
 unfold kF at h;obtain⟨⟨x,i⟩,hx,hl⟩:=List.mem_flatMap.1 h;unfold mH at hl;obtain⟨j,hj,rfl⟩:=cZ.1 hl;obtain⟨h1,h2⟩:=mW.1 hj;exact⟨i,x,j,vV.1 hx,h1,jg h2,rfl⟩
end Kd
namespace Kd
open Go Go.Ideal Canon Gph
theorem Ke{k:aU}{p:List Clue}(h:iQ k p):∀(d i:Nat) a b,p[i]? =some a->p[i+1+d]? =some b->eZ a b<0
 |0,i,a,b,ha,hb=>h.sorted i a b ha hb
 |d+1,i,a,b,ha,hb=>by
  have hlt:=(aW.1 hb).1;have hc:p[i+1+d]? =some (p[i+1+d]'(by omega)):=bC _;exact J8 (Ke h d i a _ ha hc) (h.sorted (i+1+d) _ b hc hb)
theorem agE{k:aU}{p:List Clue}(h:iQ k p){a b:Clue}(ha:a∈p)(hb:b∈p)(h1:a.aN=b.aN)(h2:a.at_=b.at_):a=b:=by
 obtain⟨i,hi⟩:=jm ha;obtain⟨j,hj⟩:=jm hb;rcases Nat.lt_trichotomy i j with hl|hl|hl
 ·have:=wJ.1 (Ke h (j - (i+1)) i a b hi (by rw[show i+1+(j - (i+1))=j by omega];exact hj));omega
 ·subst hl;rw[hi]at hj;exact Option.some.inj hj
 ·have:=wJ.1 (Ke h (i - (j+1)) j b a hj (by rw[show j+1+(i - (j+1))=i by omega];exact hi));omega
end Kd
namespace Kd
open Go Go.Ideal
theorem Kg:∀{l m:List Int},l.Nodup->(∀x∈l,x∈m)->l.length<=m.length
 |[],m,_,_=>dK _
 |a::l,m,hd,hs=>by
  have ha:=hs a (bR ..);have h1:=RD ha;have hp:0<m.length:=RF ha;have:=Kg (l:=l) (m:=m.erase a) (yS.1 hd).2 (λx hx=>by
   have hne:x≠a:=λe=>(yS.1 hd).1 (e▸hx);exact(RG hne).2 (hs x (bU _ hx)))
  rw[lN];omega
theorem agF{g:cO}(hg:ik g):0<g.cells.length:=by
 apply Classical.byContradiction;intro h0;have he:g.cells=[]:=lQ.1 (by omega);rw[hg.cells]at he;unfold qU jI at he;have hw:=Dv hg.make.wi hg.make.he;have hlen:=hg.make.len;have:=Kg (l:=upTo' (g.w*g.h).toNat) (m:=g.holes) (O4 _) (λx hx=>by
  have hx:x∈(List.range (g.w*g.h).toNat).map λi:Nat=>(i:Int):=hx;have:=List.filter_eq_nil_iff.1 he x hx;simpa using this)
 rw[wI]at this;omega
end Kd
namespace Kd
open Go Go.Ideal Canon Gph
theorem agG{g:cO}(hg:ik g)(k:Int):(gN g k).length<=2048:=by
 have hl:=hg.len;have hn:=wH g;have hL:=λkf=>J5 hg kf;unfold gN;split
 ·unfold lH;rw[bJ,uH];omega
 split
 ·have:=(hL (λs=>(s.2,true))).1;omega
 split
 ·have:=(hL (λs=>(s.1,true))).1;omega
 split
 ·unfold uo;split
  ·have:=(hL (λs=>(s.1+s.2,true))).1;omega
  split
  ·have h1:=hL (λs=>(0,decide (s.1=s.2)));have h2:=hL (λs=>(0,decide (s.1+s.2=g.w - 1)));have:=(OQ h1.2 h2.2 (ku g (λs=>(0,decide (s.1+s.2=g.w - 1)))).length).1;rw[eH]at this;omega
  ·simp
 split
 ·omega
 split
 ·unfold pJ;rw[bJ,List.length_zipIdx];omega
 split
 ·have:=OV (aA:=fH g) J6 (fH g).length (bB _);rw[eH]at this;omega
 ·simp
theorem Ww{d:dN}(hg:ik (bE d))(hr:∀r∈d.regions,yj (bE d) r.lists):∀l∈nT d,l.length<=2048:=by
 intro l hl;unfold nT at hl;rcases gH.1 hl with hl|hl
 ·obtain⟨f,_,rfl⟩:=cZ.1 hl;exact agG hg _
 ·obtain⟨r,hrm,rfl⟩:=cZ.1 hl;have:=(hr r hrm).len;unfold iE;rw[bJ];omega
end Kd
namespace Kd
open Canon
theorem qX{a b:Clue}:eZ a b=0↔a.aN=b.aN/\a.at_=b.at_:=by
 unfold eZ eD;simp only[uq];split<;>split at *<;>(try split at *)<;>(try split at *)<;>(try split at *)<;>omega
theorem agH(a b:Clue):tV a b=if eZ a b≠0 then eZ a b else fG eD a.values b.values:=by
 rw[Uo,<- Wl]
theorem O5{a b:Clue}:tV a b<0↔eZ a b<0\/(eZ a b=0/\fG eD a.values b.values<0):=by
 rw[agH];split<;>omega
structure jP(xs rs:List Clue):Prop where
 inc:rs.Pairwise λa b=>eZ a b<0
 sub:∀r∈rs,r∈xs
 all:∀x∈xs,∃r∈rs,eZ x r=0/\¬fG eD x.values r.values<0
theorem agI{rs:List Clue}(h:rs.Pairwise λa b=>eZ a b<0){a b:Clue}(ha:a∈rs)(hb:b∈rs)(he:eZ a b=0):a=b:=by
 induction h with
 |nil=>cases ha
 |cons h1 _ ih=>
  rcases bN.1 ha with e1|ha'<;>rcases bN.1 hb with e2|hb'
  ·rw[e1,e2]
  ·have:=h1 b hb';rw[<- e1]at this;omega
  ·have:=h1 a ha';rw[<- e2]at this;rw[qX]at he;rw[wJ]at this;omega
  ·exact ih ha' hb'
theorem jP.mem{xs rs rs':List Clue}(h:jP xs rs)(h':jP xs rs'){r:Clue}(hr:r∈rs):r∈rs':=by
 obtain⟨r2,m2,p2,v2⟩:=h'.all r (h.sub r hr);obtain⟨r1,m1,p1,v1⟩:=h.all r2 (h'.sub r2 m2);have h3:eZ r r1=0:=by rw[qX]at *;omega
 have:=agI h.inc hr m1 h3;subst this;have hO:=wy ww;have h4:fG eD r.values r2.values=0:=by
  have:=hO.neg r2.values r.values;have:=hO.neg r.values r2.values;omega
 have h5:=(hO.zero _ _).1 h4;rw[qX]at p2;have:r=r2:=by cases r;cases r2;simp_all
 rw[this];exact m2
theorem Wx:∀{a b:List Clue},(a.Pairwise λx y=>eZ x y<0)->(b.Pairwise λx y=>eZ x y<0)->(∀x,x∈a↔x∈b)->a=b
 |[],[],_,_,_=>rfl
 |[],y::b,_,_,h=>absurd ((h y).2 (bR ..)) (by simp)
 |x::a,[],_,_,h=>absurd ((h x).1 (bR ..)) (by simp)
 |x::a,y::b,ha,hb,h=>by
  obtain⟨a1,a2⟩:=nL.1 ha;obtain⟨b1,b2⟩:=nL.1 hb;have hxy:x=y:=by
   rcases bN.1 ((h x).1 (bR ..))with e|e
   ·exact e
   ·rcases bN.1 ((h y).2 (bR ..))with e'|e'
    ·exact e'.symm
    ·have q1:=b1 x e;have q2:=a1 y e';rw[wJ]at q1 q2;omega
  subst hxy;have Wy:∀z:Clue,¬eZ z z<0:=λz h=>by rw[wJ]at h;omega
  rw[Wx a2 b2 λz=>⟨λhz=>?_,λhz=>?_⟩]
  ·rcases bN.1 ((h z).1 (bU _ hz))with e|e
   ·subst e;exact absurd (a1 z hz) (Wy z)
   ·exact e
  ·rcases bN.1 ((h z).2 (bU _ hz))with e|e
   ·subst e;exact absurd (b1 z hz) (Wy z)
   ·exact e
theorem jP.uniq{xs rs rs':List Clue}(h:jP xs rs)(h':jP xs rs'):rs=rs':=Wx h.inc h'.inc λr=>⟨h.mem h',h'.mem h⟩
theorem jP.Wz{xs xs' rs:List Clue}(h:jP xs rs)(h1:∀x,x∈xs'↔x∈xs):jP xs' rs:=⟨h.inc,λr hr=>(h1 r).2 (h.sub r hr),λx hx=>h.all x ((h1 x).1 hx)⟩
theorem jP.self{xs rs:List Clue}(h:jP xs rs):jP rs rs:=⟨h.inc,λ_ h=>h,λx hx=>⟨x,hx,by rw[qX];exact⟨rfl,rfl⟩,by have:=((wy ww).zero x.values x.values).2 rfl;omega⟩⟩
def cgo{β:Type}(eq:β->β->Bool)(p:β):List β->List β
 |[]=>[]
 |y::l=>cond (eq y p) (cgo eq y l) (y::cgo eq y l)
def sw{β:Type}(eq:β->β->Bool):List β->List β
 |[]=>[]
 |x::l=>x::cgo eq x l
theorem O6{β:Type}{eq:β->β->Bool}:∀{l:List β} {p r:β},r∈cgo eq p l->r∈l
 |y::l,p,r,h=>by
  unfold cgo at h;cases e:eq y p with
  |true=>rw[e]at h;exact bU _ (O6 h)
  |false=>
   rw[e]at h;rcases bN.1 h with rfl|h
   ·exact bR ..
   ·exact bU _ (O6 h)
theorem agJ{β:Type}{eq:β->β->Bool}:∀{l:List β} {r:β},r∈sw eq l->r∈l
 |x::l,r,h=>by
  rcases bN.1 h with rfl|h
  ·exact bR ..
  ·exact bU _ (O6 h)
theorem O7{β γ:Type}{eq:β->β->Bool}{eq':γ->γ->Bool}(f:β->γ)(h:∀a b,eq a b=eq' (f a) (f b)):∀(l:List β) (p:β),(cgo eq p l).map f=cgo eq' (f p) (l.map f)
 |[],_=>rfl
 |y::l,p=>by
  rw[fI,cgo,cgo,<- h];cases eq y p with
  |true=>exact O7 f h l y
  |false=>
   show f y::(cgo eq y l).map f=f y::_;rw[O7 f h l y]
theorem agK{β γ:Type}{eq:β->β->Bool}{eq':γ->γ->Bool}(f:β->γ)(h:∀a b,eq a b=eq' (f a) (f b)):∀(l:List β),(sw eq l).map f=sw eq' (l.map f)
 |[]=>rfl
 |x::l=>by
  show f x::(cgo eq x l).map f=f x::_;rw[O7 f h l x]
abbrev qo(a b:Clue):Bool:=decide (eZ a b=0)
theorem WA:∀(l:List Clue) (p:Clue),((p::l).Pairwise λx y=>¬tV y x<0)->(p::cgo qo p l).Pairwise (λa b=>eZ a b<0)/\∀x∈l,(∃r∈p::cgo qo p l,eZ x r=0/\¬fG eD x.values r.values<0)
 |[],p,_=>⟨List.pairwise_singleton ..,λx hx=>by cases hx⟩
 |y::l,p,h=>by
  obtain⟨h1,h2⟩:=nL.1 h;have hyp:=h1 y (bR ..);obtain⟨i1,i2⟩:=WA l y h2;obtain⟨i3,i4⟩:=nL.1 i1;have hO:=wy ww;unfold cgo;by_cases e:eZ y p=0
  ·rw[show qo y p=true from fQ e,cond_true];have ep:∀z,eZ p z=eZ y z:=λz=>by
    rw[qX]at e;unfold eZ;rw[e.1,e.2]
   refine⟨nL.2 ⟨λz hz=>by rw[ep];exact i3 z hz,i4⟩,λx hx=>?_⟩;have hp:∀x:Clue,eZ x y=0->¬fG eD x.values y.values<0->∃r∈p::cgo qo y l,eZ x r=0/\¬fG eD x.values r.values<0:=λx q1 q2=>by
    refine⟨p,bR ..,by rw[qX]at *;omega,λq=>?_⟩;have hpy:¬fG eD y.values p.values<0:=λq=>hyp (O5.2 (.inr ⟨e,q⟩));by_cases e1:fG eD x.values y.values=0
    ·rw[(hO.zero _ _).1 e1]at q;exact hpy q
    by_cases e2:fG eD y.values p.values=0
    ·rw[<- (hO.zero _ _).1 e2]at q;exact q2 q
    have:=hO.neg p.values y.values;have:=hO.neg y.values p.values;have:=hO.neg y.values x.values;have:=hO.neg x.values y.values;have:=hO.trans p.values y.values x.values (by omega) (by omega);have:=hO.neg p.values x.values;omega
   rcases bN.1 hx with rfl|hx
   ·exact hp x (by rw[qX];exact⟨rfl,rfl⟩) (by have:=(hO.zero x.values x.values).2 rfl;omega)
   ·obtain⟨r,m,q1,q2⟩:=i2 x hx;rcases bN.1 m with rfl|m
    ·exact hp x q1 q2
    ·exact⟨r,bU _ m,q1,q2⟩
  ·rw[show qo y p=false from dM e,cond_false];have hpy:eZ p y<0:=by
    have:¬eZ y p<0:=λq=>hyp (O5.2 (.inl q));rw[wJ]at *;rw[qX]at e;omega
   refine⟨nL.2 ⟨λz hz=>?_,i1⟩,λx hx=>?_⟩
   ·rcases bN.1 hz with rfl|hz
    ·exact hpy
    ·exact J8 hpy (i3 z hz)
   ·rcases bN.1 hx with rfl|hx
    ·exact⟨x,bU _ (bR ..),by rw[qX];exact⟨rfl,rfl⟩,by have:=(hO.zero x.values x.values).2 rfl;omega⟩
    ·obtain⟨r,m,q⟩:=i2 x hx;exact⟨r,bU _ m,q⟩
theorem agL{xs ys:List Clue}(hp:ys.Perm xs)(hs:ys.Pairwise λx y=>¬tV y x<0):jP xs (sw qo ys):=by
 cases ys with
 |nil=>exact⟨List.Pairwise.nil,(λr hr=>by cases hr),(λx hx=>by have:=hp.mem_iff.2 hx;cases this)⟩
 |cons p l=>
  obtain⟨h1,h2⟩:=WA l p hs;refine⟨h1,λr hr=>hp.mem_iff.1 (agJ hr),λx hx=>?_⟩;rcases bN.1 (hp.mem_iff.2 hx)with rfl|hx
  ·exact⟨x,bR ..,by rw[qX];exact⟨rfl,rfl⟩,by have:=((wy ww).zero x.values x.values).2 rfl;omega⟩
  ·exact h2 x hx
def opn(p:List Clue)(x:Clue):Bool:=match p.getLast? with
 |none=>true
 |some y=>decide (0<eZ x y)
theorem O8{p:List Clue}{b x:Clue}:opn (p++[b]) x=decide (0<eZ x b):=by
 unfold opn;rw[List.getLast?_append];rfl
theorem Kh{a b:Clue}:0<eZ a b↔eZ b a<0:=by
 rw[wJ];unfold eZ eD;simp only[uq];split<;>split at *<;>(try split at *)<;>(try split at *)<;>(try split at *)<;>omega
structure O9(l p:List Clue)(n:Nat):Prop where
 inc:p.Pairwise λa b=>eZ a b<0
 sub:∀r∈p,r∈l
 done:∀x∈l,opn p x=false->∃r∈p,eZ x r=0/\¬fG eD x.values r.values<0
 cnt:l.countP (opn p)+n<=l.length
theorem WB{α:Type}{p q:α->Bool}:∀{l:List α} {b:α},b∈l->p b=true->q b=false->(∀x,q x=true->p x=true)->l.countP q+1<=l.countP p
 |x::l,b,hb,h1,h2,h3=>by
  rw[List.countP_cons,List.countP_cons];rcases bN.1 hb with rfl|hb
  ·have:=List.countP_mono_left (l:=l) (p:=q) (q:=p) λx _=>h3 x;rw[h1,h2];simp only[if_true];simp;omega
  ·have:=WB hb h1 h2 h3;by_cases e:q x=true
   ·rw[if_pos e,if_pos (h3 x e)];omega
   ·rw[if_neg e];omega
theorem WC:∀{p:List Clue} {y:Clue},(p.Pairwise λa b=>eZ a b<0)->p.getLast? =some y->∀a∈p,a=y\/eZ a y<0
 |[],y,_,h,a,ha=>by cases ha
 |[x],y,_,h,a,ha=>by
  cases h;exact .inl (bO.1 ha)
 |x::z::p,y,hp,h,a,ha=>by
  obtain⟨h1,h2⟩:=nL.1 hp;have h':(z::p).getLast? =some y:=by rw[List.getLast?_cons_cons]at h;exact h
  rcases bN.1 ha with rfl|ha
  ·exact .inr (h1 y (List.mem_of_getLast? h'))
  ·exact WC h2 h' a ha
theorem O9.step{l p:List Clue}{n:Nat}{b:Clue}(h:O9 l p n)(hb:b∈l)(ho:opn p b=true)(hl:∀x∈l,opn p x=true->¬tV x b<0):O9 l (p++[b]) (n+1):=by
 have hab:∀y,p.getLast? =some y->eZ y b<0:=λy hy=>by
  unfold opn at ho;rw[hy]at ho;exact Kh.1 (jg ho)
 refine⟨GQ.2 ⟨h.inc,List.pairwise_singleton ..,λa ha b' hb'=>?_⟩,λr hr=>?_,λx hx hc=>?_,?_⟩
 ·rw[bO.1 hb'];cases e:p.getLast? with
  |none=>rw[List.getLast?_eq_none_iff.1 e]at ha;cases ha
  |some y=>
   have h2:=hab y e;rcases WC h.inc e a ha with rfl|h1
   ·exact h2
   ·exact J8 h1 h2
 ·rcases gH.1 hr with hr|hr
  ·exact h.sub r hr
  ·rw[bO.1 hr];exact hb
 ·rw[O8]at hc;have hc:=uI hc;cases e:opn p x with
  |true=>
   have h1:=hl x hx e;rw[O5]at h1;refine⟨b,by simp,?_,?_⟩
   ·by_cases h2:eZ x b<0
    ·exact absurd (.inl h2) h1
    ·omega
   ·intro h2;by_cases h3:eZ x b<0
    ·exact h1 (.inl h3)
    ·exact h1 (.inr ⟨by omega,h2⟩)
  |false=>
   obtain⟨r,m,q⟩:=h.done x hx e;exact⟨r,kK _ m,q⟩
 ·have:=WB (p:=opn p) (q:=opn (p++[b])) hb ho (by rw[O8];exact dM (by rw[Kh,wJ];omega)) (λx hx=>by
   rw[O8]at hx;have hx:=jg hx;unfold opn;cases e:p.getLast? with
   |none=>rfl
   |some y=>exact fQ (Kh.2 (J8 (hab y e) (Kh.1 hx))))
  have:=h.cnt;omega
end Kd
namespace Kd
open Canon
theorem agM{rs:List Clue}(h:rs.Pairwise λa b=>eZ a b<0):rs.Nodup:=h.imp λ{a b} hab he=>by rw[he,wJ]at hab;omega
theorem WE{α:Type}[DecidableEq α]:∀{a b:List α},a.Nodup->(∀x∈a,x∈b)->a.length<=b.length
 |[],_,_,_=>dK _
 |x::a,b,hn,h=>by
  obtain⟨h1,h2⟩:=yS.1 hn;have hx:=h x (bR ..);have:=WE (b:=b.erase x) h2 λy hy=>(RG (by rintro rfl;exact h1 hy)).2 (h y (bU _ hy));rw[RD hx]at this;have:=RF hx;rw[lN];omega
theorem agN{xs rs:List Clue}(h:jP xs rs):rs.length<=xs.length:=WE (agM h.inc) h.sub
end Kd
namespace Kd
open Go Go.Ideal
theorem Pb:∀{a b:List Int},a.Pairwise (·<·)->b.Pairwise (·<·)->(∀x,x∈a↔x∈b)->a=b
 |[],[],_,_,_=>rfl
 |[],y::b,_,_,h=>by have:=(h y).2 (bR ..);cases this
 |x::a,[],_,_,h=>by have:=(h x).1 (bR ..);cases this
 |x::a,y::b,ha,hb,h=>by
  have hxy:x=y:=by
   rcases bN.1 ((h x).1 (bR ..))with e|hx
   ·exact e
   rcases bN.1 ((h y).2 (bR ..))with e|hy
   ·exact e.symm
   have:=(nL.1 ha).1 y hy;have:=(nL.1 hb).1 x hx;omega
  subst hxy;rw[Pb (nL.1 ha).2 (nL.1 hb).2 λz=>?_];constructor
  ·intro hz;have:=(nL.1 ha).1 z hz;exact(bN.1 ((h z).1 (bU _ hz))).resolve_left (by omega)
  ·intro hz;have:=(nL.1 hb).1 z hz;exact(bN.1 ((h z).2 (bU _ hz))).resolve_left (by omega)
theorem agO{n:Nat}{x:Int}:x∈upTo' n↔0<=x/\x<(n:Int):=by
 unfold upTo';rw[cZ];constructor
 ·rintro⟨i,hi,rfl⟩;have:=o9.1 hi;omega
 ·intro h;exact⟨x.toNat,o9.2 (by omega),by omega⟩
theorem agP(n:Nat):(upTo' n).Pairwise (·<·):=by
 unfold upTo';rw[yX];exact List.Pairwise.imp (λh=>by omega) List.pairwise_lt_range
def wK(n:Nat)(p:Int->Bool):List Int:=(upTo' n).filter p
theorem agQ{n:Nat}{p:Int->Bool}{x:Int}:x∈wK n p↔(0<=x/\x<(n:Int))/\p x=true:=by
 unfold wK;rw[mW,agO]
theorem Pd(n:Nat)(p:Int->Bool):(wK n p).Pairwise (·<·):=List.Pairwise.filter _ (agP n)
theorem agR{l:List Int}(hi:l.Pairwise (·<·)){n:Nat}{p:Int->Bool}(h:∀x,x∈l↔(0<=x/\x<(n:Int))/\p x=true):l=wK n p:=
 Pb hi (Pd n p) λx=>(h x).trans agQ.symm
structure amZ(s w h:Int)(holes:List Int):Prop where
 sh:s=1\/s=2
 wi:1<=w/\w<=16
 he:1<=h/\h<=16
 inc:holes.Pairwise (·<·)
 mem:∀x∈holes,0<=x/\x<w*h
 ne:qU w h holes≠[]
def qY(g:cO)(c:Int):Int×Int:=((g.cells[c.toNat]?).map (oP g)).getD (0,0)
theorem WG{g:cO}{k:Nat}{x:Int}(h:g.cells[k]? =some x):qY g (k:Int)=oP g x:=by
 unfold qY;rw[eX,h];rfl
theorem WH{g:cO}{q:Int×(Int×Int)}:q∈bA g↔(0<=q.1/\q.1<(g.cells.length:Int))/\q.2=qY g q.1:=by
 constructor
 ·intro h;refine⟨Ka q h,?_⟩;obtain⟨k,hk⟩:=wZ.1 h;have h1:=x8 hk;have hkl:=(aW.1 hk).1;rw[qV]at hkl;have hx:g.cells[k]? =some g.cells[k]:=bC hkl;rw[Bt hx]at hk;have hk:=Option.some.inj hk;rw[h1,WG hx,<- hk]
 ·rintro⟨⟨h1,h2⟩,h3⟩;have hkl:q.1.toNat<g.cells.length:=by omega
  have hx:g.cells[q.1.toNat]? =some g.cells[q.1.toNat]:=bC hkl;have h4:=Bt hx;rw[show((q.1.toNat:Nat):Int)=q.1 by omega]at h4;have h5:qY g q.1=oP g g.cells[q.1.toNat]:=by
   have:=WG hx
   rwa [show((q.1.toNat:Nat):Int)=q.1 by omega]at this
  rw[<- h5,<- h3]at h4;exact aR h4
theorem FX{α β:Type}[DecidableEq α](b:α)(v:β):∀m:List (α×β),(upd b v m).map (·.1)=if b∈m.map (·.1)then m.map (·.1)else m.map (·.1)++[b]
 |[]=>by
  rw[if_neg (by simp)];rfl
 |(a,u)::m=>by
  unfold upd;by_cases e:b=a
  ·rw[if_pos e,if_pos (by rw[e];simp),e];rfl
  ·rw[if_neg e,fI,fI,FX b v m];by_cases h:b∈m.map (·.1)
   ·rw[if_pos h,if_pos (bU _ h)]
   ·rw[if_neg h,if_neg (by rw[bN,not_or];exact⟨e,h⟩)];rfl
def nA(kf:Int×Int->Int×Bool)(ps:List (Int×(Int×Int)))(n:Int):List Int:=(ps.filter λp=>(kf p.2).2&&decide ((kf p.2).1=n)).map (·.1)
theorem Pe(kf:Int×Int->Int×Bool)(ps:List (Int×(Int×Int)))(p:Int×(Int×Int))(n:Int):nA kf (ps++[p]) n=nA kf ps n++if((kf p.2).2&&decide ((kf p.2).1=n))=true then[p.1]else[]:=by
 unfold nA;rw[Al,di];congr 1;rw[En];split<;>simp
theorem WI(kf:Int×Int->Int×Bool)(m:Nat):∀ps:List (Int×(Int×Int)),ps.length=m->((jY kf ps).map (·.1)).Nodup/\∀n,(n∈(jY kf ps).map (·.1)↔nA kf ps n≠[])/\(dU n (jY kf ps)).getD []=nA kf ps n:=by
 induction m with
 |zero=>
  intro ps h;rw[lQ.1 h];exact⟨yU,λn=>⟨by simp[jY,nA],rfl⟩⟩
 |succ m ih=>
  intro ps h;obtain⟨qs,p,rfl⟩:∃qs p,ps=qs++[p]:=⟨ps.dropLast,ps.getLast (by intro e;rw[e]at h;cases h),(Et _).symm⟩
  obtain⟨h1,h2⟩:=ih qs (by simpa using h);rw[J4];unfold x9;cases hb:(kf p.2).2 with
  |false=>
   refine⟨h1,λn=>?_⟩;rw[Pe,hb,if_neg (by simp),iK];exact h2 n
  |true=>
   dsimp only[cond];rw[FX];refine⟨?_,λn=>⟨?_,?_⟩⟩
   ·split
    ·exact h1
    ·rename_i hn;rw[iN];exact⟨h1,by simp,λa ha b hb'=>by rw[bO.1 hb'];exact λe=>hn (e▸ha)⟩
   ·rw[Pe,hb];by_cases e:(kf p.2).1=n
    ·have hc:(true&&decide ((kf p.2).1=n))=true:=by simp[e]
     rw[if_pos hc];split
     ·rename_i hn;rw[e]at hn;exact⟨λ_=>by simp,λ_=>hn⟩
     ·rw[e];exact⟨λ_=>by simp,λ_=>om _ (bO.2 rfl)⟩
    ·have hc:¬(true&&decide ((kf p.2).1=n))=true:=by simp[e]
     rw[if_neg hc,iK];split
     ·exact(h2 n).1
     ·rw[gH,(h2 n).1];simp only[bO];exact⟨λh=>h.resolve_right (λx=>e x.symm),.inl⟩
   ·rw[zP,Pe,hb];by_cases e:(kf p.2).1=n
    ·rw[if_pos e.symm,if_pos (by simp[e]),wX,(h2 _).2,e]
    ·rw[if_neg (λx=>e x.symm),if_neg (by simp[e]),iK];exact(h2 n).2
theorem agS{g:cO}(kf:Int×Int->Int×Bool)(n:Int):nA kf (bA g) n=wK g.cells.length λc=>(kf (qY g c)).2&&decide ((kf (qY g c)).1=n):=by
 refine agR ?_ λc=>?_
 ·unfold nA;rw[yX];refine List.Pairwise.filter _ ?_;rw[yV];intro i j hi hj hij;have h1:=x8 (bC hi);have h2:=x8 (bC hj);rw[h1,h2];omega
 ·unfold nA;rw[cZ];constructor
  ·rintro⟨p,hp,rfl⟩;obtain⟨h1,h2⟩:=mW.1 hp;obtain⟨h3,h4⟩:=WH.1 h1;rw[<- h4];exact⟨h3,h2⟩
  ·rintro⟨h1,h2⟩;exact⟨(c,qY g c),mW.2 ⟨WH.2 ⟨h1,rfl⟩,h2⟩,rfl⟩
def dZ(lo:Int)(k:Nat):List Int:=(List.range k).map λi:Nat=>lo+(i:Int)
theorem agT(lo:Int)(k:Nat):dZ lo (k+1)=dZ lo k++[lo+(k:Int)]:=by
 unfold dZ;rw[LX,di];rfl
theorem agU{lo:Int}{k:Nat}{x:Int}:x∈dZ lo k↔lo<=x/\x<lo+(k:Int):=by
 unfold dZ;rw[cZ];constructor
 ·rintro⟨i,hi,rfl⟩;have:=o9.1 hi;omega
 ·intro h;exact⟨(x - lo).toNat,o9.2 (by omega),by omega⟩
theorem agV(lo:Int)(k:Nat):(dZ lo k).Pairwise (·<·):=by
 unfold dZ;rw[yX];exact List.Pairwise.imp (λh=>by omega) List.pairwise_lt_range
def F9(L:Int->List Int)(lo:Int)(k:Nat):List (List Int):=((dZ lo k).map L).filter λl=>!l.isEmpty
theorem agW(L:Int->List Int)(lo:Int)(k:Nat):F9 L lo (k+1)=F9 L lo k++if L (lo+(k:Int))=[]then[]else[L (lo+(k:Int))]:=by
 unfold F9;rw[agT,di,Al];congr 1;rw[j5,En];cases h:L (lo+(k:Int))with
 |nil=>rfl
 |cons x l=>simp
theorem agX{g:cO}(kf:Int×Int->Int×Bool){lo:Int}{k:Nat}(hk:∀p∈bA g,(kf p.2).2=true->lo<=(kf p.2).1/\(kf p.2).1<lo+(k:Int)):ku g kf=F9 (nA kf (bA g)) lo k:=by
 obtain⟨h1,h2⟩:=WI kf _ (bA g) rfl;have h3:bD ((jY kf (bA g)).map (·.1))=(dZ lo k).filter λn=>!(nA kf (bA g) n).isEmpty:=by
  refine Pb (O3 h1) (List.Pairwise.filter _ (agV lo k)) λn=>?_;rw[Dx,(h2 n).1,mW,agU];have hne:((!(nA kf (bA g) n).isEmpty)=true)↔nA kf (bA g) n≠[]:=by
   cases nA kf (bA g) n<;>simp
  rw[hne];refine⟨λh=>⟨?_,h⟩,λh=>h.2⟩;obtain⟨c,hc⟩:=List.exists_mem_of_ne_nil _ h;unfold nA at hc;obtain⟨p,hp,_⟩:=cZ.1 hc;obtain⟨hp1,hp2⟩:=mW.1 hp;simp only[eU,BX]at hp2;rw[<- hp2.2];exact hk p hp1 hp2.1
 unfold ku F9;rw[h3,List.filter_map];refine yQ λn _=>?_;exact(h2 n).2
theorem WJ{g:cO}(c:Int×Int->Bool):ku g (λs=>(0,c s))=if wK g.cells.length (λb=>c (qY g b))=[]then[]else[wK g.cells.length λb=>c (qY g b)]:=by
 rw[agX (lo:=0) (k:=1) (λs=>(0,c s)) (λp _ _=>⟨Int.le_refl 0,by omega⟩)];rw[show(1:Nat)=0+1 from rfl,agW];have e:nA (λs=>(0,c s)) (bA g) (0+((0:Nat):Int))=wK g.cells.length λb=>c (qY g b):=by
  rw[agS];congr 1;funext b
  simp
 rw[e];rfl
