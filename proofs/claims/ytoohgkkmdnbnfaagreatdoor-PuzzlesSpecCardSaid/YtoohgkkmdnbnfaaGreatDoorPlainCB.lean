/-
  Puzzles, in plain lists: clues that are right.
-/
import Derived.Test.YtoohgkkmdnbnfaaGreatDoorPlainBB
import Derived.Test.YtoohgkkmdnbnfaaGreatDoorPlainAB
set_option linter.all false
namespace Kd
open Go Go.Ideal Canon
def bU:Enc Clue:=⟨3,Value,λg v=>[.int .i64 g.aQ,.int .i64 g.at_,v],λg v=>[ah ae v g.values],λ_ _=>rfl⟩
abbrev ru(g:Clue)(v:Value):Value:=.agg ⟨[.int .i64 g.aQ,.int .i64 g.at_,v]⟩
def ry:List Int->Int
 |[]=>0
 |a::l=>if a≠0 then a else ry l
def gK(a b:Clue):Int:=ry [dV a.aQ b.aQ,dV a.at_ b.at_]
theorem KE(a b:Clue):gK a b=fJ dV [a.aQ,a.at_] [b.aQ,b.at_]:=by
 unfold gK;simp only[ry,fJ]
theorem Gm{a b:Clue}:gK a b<0↔a.aQ<b.aQ\/(a.aQ=b.aQ/\a.at_<b.at_):=by
 unfold gK dV;simp only[ry];split<;>split at *<;>(try split at *)<;>(try split at *)<;>(try split at *)<;>omega
theorem Q8{a b c:Clue}(h1:gK a b<0)(h2:gK b c<0):gK a c<0:=by
 rw[Gm]at *;omega
def rz(k:eT)(g:Clue):Prop:=∃(c:iP) (l:List (List Int)),0<=g.aQ/\k.decl.aF[g.aQ.toNat]? =some c/\k.lists[c.family.toNat]? =some l/\0<=g.at_/\g.at_<l.length/\
 ((c.type=1/\g.values.length=1/\∀x∈g.values,0<=x/\x<=(k.decl.symbols.length:Int) - 1)\/(c.type=2/\g.values.length=1/\∀x∈g.values,c.lo<=x/\x<=c.hi)\/
   (c.type≠1/\c.type≠2/\g.values.length<=8/\∀x∈g.values,1<=x/\x<=256))
structure sI(k:eT)(p:List Clue):Prop where
 len:p.length<=512
 right:∀g∈p,rz k g
 sorted:∀(i:Nat) a b,p[i]? =some a->p[i+1]? =some b->gK a b<0
def DX(k:eT):Prop:=∀c∈k.decl.aF,0<=c.family/\c.family<k.lists.length
end Kd
namespace Kd
open Go Go.Ideal Canon
def Q9(k:eT)(i:Int):Int:=match k.decl.aF[i.toNat]? with|some c=>c.family|none=>0
def ny(k:eT)(g:Clue):List Int:=(k.lists.getD (Q9 k g.aQ).toNat []).getD g.at_.toNat []
def Gn(k:eT)(p:List Clue)(r:bM):List (List Int×List Int):=
 if r.aQ<0 then(k.lists.getD r.family.toNat []).map λl=>(l,[r.n])else(p.filter λg=>decide (g.aQ=r.aQ)).map λg=>(ny k g,g.values)
theorem DV{α:Type}{l:List α}{n:Nat}{x d:α}(h:l[n]? =some x):l.getD n d=x:=by simp[List.getD,h]
theorem rz.cells{k:eT}{g:Clue}(h:rz k g):∃(c:iP) (l:List (List Int)) (ps:List Int),k.decl.aF[g.aQ.toNat]? =some c/\k.lists[c.family.toNat]? =some l/\l[g.at_.toNat]? =some ps/\0<=g.aQ/\0<=g.at_/\g.at_<l.length/\ny k g=ps:=by
 obtain⟨c,l,h1,h2,h3,h4,h5,_⟩:=h;have h6:l[g.at_.toNat]? =some (l[g.at_.toNat]'(by omega)):=cK _;refine⟨c,l,_,h2,h3,h6,h1,h4,h5,?_⟩;unfold ny Q9;rw[h2];dsimp only;rw[DV h3,DV h6]
end Kd
namespace Kd
open Go Go.Ideal Canon
end Kd
namespace Kd
open Go Go.Ideal
def Ra(n:Nat)(l:List Int):Prop:=l.length<=4096/\∀c∈l,0<=c/\c<(n:Int)
theorem KF{g:bz}:∀p∈bn g,0<=p.1/\p.1<(g.cells.length:Int):=by
 intro p hp;obtain⟨k,hk⟩:=sQ.1 hp;have hkl:=(bT.1 hk).1;rw[oP]at hkl;have:=u7 hk;omega
theorem aax{a b:List (List Int)}{l:List Int}(h:l∈kM a b):l∈a\/l∈b:=by
 unfold kM at h;induction b generalizing a with
 |nil=>exact .inl h
 |cons x b ih=>
  rw[uf]at h;rcases ih h with h|h
  ·unfold vo at h;split at h
   ·exact .inl h
   ·rcases dZ.1 h with h|h
    ·exact .inl h
    ·exact .inr (by rw[bG.1 h];simp)
  ·exact .inr (dA _ h)
theorem Rb{o:Option Value}{n:Int}(h:numOf o=some n):o=some (.int .i64 n):=by
 unfold numOf at h;split at h
 ·cases h;rfl
 ·cases h
theorem aay{g:bz}{p:Int×(Int×Int)}:Ra g.cells.length (kL g p):=by
 unfold kL;refine⟨?_,λc hc=>?_⟩
 ·have h1:(cO (fH (eD (bn g)) p.2 (dS.take (dJ g)))).length=(fH (eD (bn g)) p.2 (dS.take (dJ g))).length:=(zy _ _).length_eq;have h2:=Gi (eD (bn g)) p.2 (dS.take (dJ g));have h3:=yU g;rw[gM]at h2;omega
 ·rw[vw]at hc;unfold fH at hc;obtain⟨d,_,hd⟩:=Hl.1 hc;obtain⟨c',h1,q,hq,h2⟩:=QN _ _ (Rb hd);injection h1 with _ h1;rw[h1,<- h2];exact KF q hq
theorem aaz{g:bz}:∀l∈bD g,Ra g.cells.length l:=by
 intro l hl;obtain⟨p,_,rfl⟩:=je.1 hl;exact aay
theorem aaA{g:bz}(hw:1<=g.w){x y:Int}(hx:0<=x)(hy:0<=y)(h:lV g x=lV g y):x=y:=by
 unfold lV at h;have h1:=congrArg Prod.fst h;have h2:=congrArg Prod.snd h;dsimp only at h1 h2;rw[rJ hx,rJ hy]at h2;rw[rJ hx,rJ hy,Bp hx,Bp hy,h2]at h1;have h3:x%g.w=y%g.w:=by
  split at h1<;>omega
 have e1:=MF x g.w;have e2:=MF y g.w;rw[h2,h3]at e1;omega
theorem Gp{g:bz}(hg:fV g){p q:Int×(Int×Int)}(hp:p∈bn g)(hq:q∈bn g)(h:p.1=q.1\/p.2=q.2):p=q:=by
 obtain⟨k,hk⟩:=sQ.1 hp;obtain⟨j,hj⟩:=sQ.1 hq;have hkl:=(bT.1 hk).1;have hjl:=(bT.1 hj).1;rw[oP]at hkl hjl;rcases h with h|h
 ·have h1:=u7 hk;have h2:=u7 hj;have:k=j:=by omega
  subst this;rw[hk]at hj;exact Option.some.inj hj
 ·have hx:g.cells[k]? =some g.cells[k]:=cK hkl;have hy:g.cells[j]? =some g.cells[j]:=cK hjl;have hkk:=hk;have hjj:=hj;rw[wV hx]at hk;rw[wV hy]at hj;have hk:=Option.some.inj hk;have hj:=Option.some.inj hj;have hs:lV g g.cells[k]=lV g g.cells[j]:=by rw[<- hk,<- hj]at h;exact h
  have he:=aaA (by have:=hg.make.wi;omega) (hg.cell _ (vP _)).1 (hg.cell _ (vP _)).1 hs;have lu:g.cells.Pairwise (·<·):=by rw[hg.cells];exact Ko _ _
  have hkj:k=j:=by
   apply Classical.byContradiction;intro hne;have:=Bq.1 lu;rcases Nat.lt_or_gt_of_ne hne with hl|hl
   ·have:=this k j hkl hjl hl;omega
   ·have:=this j k hjl hkl hl;omega
  subst hkj;rw[hkk]at hjj;exact Option.some.inj hjj
theorem aaB(n:Nat):∀xs:List (Int×(Int×Int)),xs.length=n->(∀p∈xs,∀q∈xs,p.2=q.2->p=q)->∀p∈xs,dN p.2 (eD xs)=some (.int .i64 p.1):=by
 induction n with
 |zero=>intro xs h _ p hp;rw[jl.1 h]at hp;cases hp
 |succ n ih=>
  intro xs h hi p hp;obtain⟨ys,q,rfl⟩:∃ys q,xs=ys++[q]:=⟨xs.dropLast,xs.getLast (by intro e;rw[e]at h;cases h),(EG _).symm⟩
  rw[Kq,yV];by_cases e:p.2=q.2
  ·have:=hi p hp q (by simp) e;subst this;rw[if_pos rfl]
  ·rw[if_neg e];refine ih ys (by simpa using h) (λa ha b hb=>hi a (kw _ ha) b (kw _ hb)) p ?_;rcases dZ.1 hp with hp|hp
   ·exact hp
   ·rw[bG.1 hp]at e;exact absurd rfl e
theorem aaC(n:Nat):∀xs:List (Int×(Int×Int)),xs.length=n->∀a v,dN a (eD xs)=some v->∃p∈xs,p.2=a/\v=.int .i64 p.1:=by
 induction n with
 |zero=>
  intro xs h a v hv;rw[jl.1 h]at hv;cases hv
 |succ n ih=>
  intro xs h a v hv;obtain⟨ys,q,rfl⟩:∃ys q,xs=ys++[q]:=⟨xs.dropLast,xs.getLast (by intro e;rw[e]at h;cases h),(EG _).symm⟩
  rw[Kq,yV]at hv;by_cases e:a=q.2
  ·rw[if_pos e]at hv;exact⟨q,by simp,e.symm,(Option.some.inj hv).symm⟩
  ·rw[if_neg e]at hv;obtain⟨p,h1,h2⟩:=ih ys (by simpa using h) a v hv;exact⟨p,kw _ h1,h2⟩
theorem Gq{g:bz}(hg:fV g){s:Int×Int}{d:Int×Int}{n:Int}:numOf (dN (s.1+d.1,s.2+d.2) (eD (bn g)))=some n↔∃q∈bn g,q.2=(s.1+d.1,s.2+d.2)/\q.1=n:=by
 constructor
 ·intro h;obtain⟨q,hq,h1,h2⟩:=aaC _ (bn g) rfl _ _ (Rb h);injection h2 with _ h2;exact⟨q,hq,h1,h2.symm⟩
 ·rintro⟨q,hq,h1,h2⟩;rw[<- h1,aaB _ (bn g) rfl (λa ha b hb e=>Gp hg ha hb (.inr e)) q hq,<- h2];rfl
theorem KG{g:bz}(hg:fV g){p:Int×(Int×Int)}{n:Int}:n∈kL g p↔∃d∈dS.take (dJ g),∃q∈bn g,q.2=(p.2.1+d.1,p.2.2+d.2)/\q.1=n:=by
 unfold kL;rw[vw];unfold fH;rw[Hl];constructor
 ·rintro⟨d,hd,h⟩;exact⟨d,hd,(Gq hg).1 h⟩
 ·rintro⟨d,hd,h⟩;exact⟨d,hd,(Gq hg).2 h⟩
theorem Rc(g:bz):dJ g=4\/dJ g=6:=by unfold dJ;split<;>simp
theorem aaD{m:Nat}(hm:m=4\/m=6):∀d∈dS.take m,(-d.1, -d.2)∈dS.take m:=by
 rcases hm with rfl|rfl<;>decide
theorem aaE{m:Nat}:∀d∈dS.take m,¬(d.1=0/\d.2=0):=by
 intro d hd;have:=G9 hd;revert d;have:∀d∈dS,¬(d.1=0/\d.2=0):=by decide
 intro d _ hd;exact this d hd
theorem aaF{m:Nat}(hm:m=4\/m=6):(dS.take m).Nodup:=by
 rcases hm with rfl|rfl<;>decide
theorem aaG(l:List Int):(cO l).Pairwise (λx y=>x<=y):=by
 have:=ME (le:=λx y:Int=>decide (x<=y)) (λa b c h1 h2=>by simp at h1 h2⊢;omega) (λa b=>by simp;omega) l;exact this.imp (λh=>by simpa using h)
theorem KH{l:List Int}(h:l.Nodup):(cO l).Pairwise (·<·):=by
 have h1:=aaG l;have h2:(cO l).Nodup:=(zy l _).symm.nodup h;have h3:(cO l).Pairwise (λx y=>x<=y/\x≠y):=List.Pairwise.and h1 h2;exact h3.imp (λh=>by omega)
theorem Re{g:bz}(hg:fV g)(p:Int×(Int×Int)):(kL g p).Pairwise (·<·):=by
 unfold kL;refine KH ?_;unfold fH;refine List.Pairwise.filterMap _ ?_ (aaF (Rc g));intro d1 d2 hne b hb b' hb' e;subst e;obtain⟨q1,h1,h2,h3⟩:=(Gq hg).1 hb;obtain⟨q2,k1,k2,k3⟩:=(Gq hg).1 hb';have:=Gp hg h1 k1 (.inl (by rw[h3,k3]));subst this;rw[h2]at k2;apply hne;have e1:=congrArg Prod.fst k2;have e2:=congrArg Prod.snd k2;dsimp only at e1 e2;exact Prod.ext (by omega) (by omega)
theorem aaH{g:bz}(hg:fV g)(i:Nat)(l:List Int)(hl:(bD g)[i]? =some l)(k:Nat)(n:Int)(hn:l[k]? =some n):
 0<=n/\n<(bD g).length/\n≠i/\(∀m,0<k->l[k - 1]? =some m->m<n)/\∀l',(bD g)[n.toNat]? =some l'->(i:Int)∈l':=by
 have hnm:=AP g;unfold bD at hl;rw[eY]at hl;obtain⟨p,hp,rfl⟩:=mF.1 hl;have hp1:=u7 hp;have hpm:=bJ hp;obtain⟨d,hd,q,hq,hq2,hq1⟩:=(KG hg).1 (bJ hn);have hqi:=KF q hq;refine⟨by omega,by omega,λe=>?_,λm hk hm=>?_,λl' hl'=>?_⟩
 ·have:q=p:=Gp hg hq hpm (.inl (by omega));subst this;have e1:=congrArg Prod.fst hq2;have e2:=congrArg Prod.snd hq2;dsimp only at e1 e2;exact aaE d hd ⟨by omega,by omega⟩
 ·have hlt:=Re hg p;obtain⟨a1,a2⟩:=bT.1 hm;obtain⟨b1,b2⟩:=bT.1 hn;have:=Bq.1 hlt (k - 1) k a1 b1 (by omega);rw[a2,b2]at this;exact this
 ·unfold bD at hl';rw[eY]at hl';obtain⟨q',hq',rfl⟩:=mF.1 hl';have h1:=u7 hq';have:q'=q:=Gp hg (bJ hq') hq (.inl (by omega));subst this;rw[KG hg];refine⟨(-d.1, -d.2),aaD (Rc g) d hd,p,hpm,?_,hp1⟩;rw[hq2];dsimp only;exact Prod.ext (by dsimp only;omega) (by dsimp only;omega)
end Kd
namespace Kd
open Go Go.Ideal Canon Gph
end Kd
namespace Kd
open Go Go.Ideal Canon Gph
end Kd
namespace Kd
open Go Go.Ideal Canon Gph
end Kd
namespace Kd
open Go Go.Ideal Canon Gph
end Kd
namespace Kd
open Go Go.Ideal
end Kd
namespace Kd
open Go Go.Ideal Canon Gph
end Kd
namespace Kd
open Canon
theorem Gr{a b:Clue}:gK a b=0↔a.aQ=b.aQ/\a.at_=b.at_:=by
 unfold gK dV;simp only[ry];split<;>split at *<;>(try split at *)<;>(try split at *)<;>(try split at *)<;>omega
theorem aaI(a b:Clue):pU a b=if gK a b≠0 then gK a b else fJ dV a.values b.values:=by
 rw[OV,<- KE]
theorem aaJ{a b:Clue}:pU a b<0↔gK a b<0\/(gK a b=0/\fJ dV a.values b.values<0):=by
 rw[aaI];split<;>omega
structure wZ(xs rs:List Clue):Prop where
 inc:rs.Pairwise λa b=>gK a b<0
 sub:∀r∈rs,r∈xs
 all:∀x∈xs,∃r∈rs,gK x r=0/\¬fJ dV x.values r.values<0
theorem aaK{rs:List Clue}(h:rs.Pairwise λa b=>gK a b<0){a b:Clue}(ha:a∈rs)(hb:b∈rs)(he:gK a b=0):a=b:=by
 induction h with
 |nil=>cases ha
 |cons h1 _ ih=>
  rcases dF.1 ha with e1|ha'<;>rcases dF.1 hb with e2|hb'
  ·rw[e1,e2]
  ·have:=h1 b hb';rw[<- e1]at this;omega
  ·have:=h1 a ha';rw[<- e2]at this;rw[Gr]at he;rw[Gm]at this;omega
  ·exact ih ha' hb'
theorem wZ.mem{xs rs rs':List Clue}(h:wZ xs rs)(h':wZ xs rs'){r:Clue}(hr:r∈rs):r∈rs':=by
 obtain⟨r2,m2,p2,v2⟩:=h'.all r (h.sub r hr);obtain⟨r1,m1,p1,v1⟩:=h.all r2 (h'.sub r2 m2);have h3:gK r r1=0:=by rw[Gr]at *;omega
 have:=aaK h.inc hr m1 h3;subst this;have hO:=yD yC;have h4:fJ dV r.values r2.values=0:=by
  have:=hO.neg r2.values r.values;have:=hO.neg r.values r2.values;omega
 have h5:=(hO.zero _ _).1 h4;rw[Gr]at p2;have:r=r2:=by cases r;cases r2;simp_all
 rw[this];exact m2
theorem wZ.self{xs rs:List Clue}(h:wZ xs rs):wZ rs rs:=⟨h.inc,λ_ h=>h,λx hx=>⟨x,hx,by rw[Gr];exact⟨rfl,rfl⟩,by have:=((yD yC).zero x.values x.values).2 rfl;omega⟩⟩
def opn(p:List Clue)(x:Clue):Bool:=match p.getLast? with
 |none=>true
 |some y=>decide (0<gK x y)
theorem KI{p:List Clue}{b x:Clue}:opn (p++[b]) x=decide (0<gK x b):=by
 unfold opn;rw[List.getLast?_append];rfl
theorem Gs{a b:Clue}:0<gK a b↔gK b a<0:=by
 rw[Gm];unfold gK dV;simp only[ry];split<;>split at *<;>(try split at *)<;>(try split at *)<;>(try split at *)<;>omega
structure yX(l p:List Clue)(n:Nat):Prop where
 inc:p.Pairwise λa b=>gK a b<0
 sub:∀r∈p,r∈l
 done:∀x∈l,opn p x=false->∃r∈p,gK x r=0/\¬fJ dV x.values r.values<0
 cnt:l.countP (opn p)+n<=l.length
theorem Rf{α:Type}{p q:α->Bool}:∀{l:List α} {b:α},b∈l->p b=true->q b=false->(∀x,q x=true->p x=true)->l.countP q+1<=l.countP p
 |x::l,b,hb,h1,h2,h3=>by
  rw[List.countP_cons,List.countP_cons];rcases dF.1 hb with rfl|hb
  ·have:=List.countP_mono_left (l:=l) (p:=q) (q:=p) λx _=>h3 x;rw[h1,h2];simp only[if_true];simp;omega
  ·have:=Rf hb h1 h2 h3;by_cases e:q x=true
   ·rw[if_pos e,if_pos (h3 x e)];omega
   ·rw[if_neg e];omega
theorem Rh:∀{p:List Clue} {y:Clue},(p.Pairwise λa b=>gK a b<0)->p.getLast? =some y->∀a∈p,a=y\/gK a y<0
 |[],y,_,h,a,ha=>by cases ha
 |[x],y,_,h,a,ha=>by
  cases h;exact .inl (bG.1 ha)
 |x::z::p,y,hp,h,a,ha=>by
  obtain⟨h1,h2⟩:=rH.1 hp;have h':(z::p).getLast? =some y:=by rw[List.getLast?_cons_cons]at h;exact h
  rcases dF.1 ha with rfl|ha
  ·exact .inr (h1 y (List.mem_of_getLast? h'))
  ·exact Rh h2 h' a ha
theorem yX.step{l p:List Clue}{n:Nat}{b:Clue}(h:yX l p n)(hb:b∈l)(ho:opn p b=true)(hl:∀x∈l,opn p x=true->¬pU x b<0):yX l (p++[b]) (n+1):=by
 have hab:∀y,p.getLast? =some y->gK y b<0:=λy hy=>by
  unfold opn at ho;rw[hy]at ho;exact Gs.1 (iB ho)
 refine⟨Hy.2 ⟨h.inc,List.pairwise_singleton ..,λa ha b' hb'=>?_⟩,λr hr=>?_,λx hx hc=>?_,?_⟩
 ·rw[bG.1 hb'];cases e:p.getLast? with
  |none=>rw[List.getLast?_eq_none_iff.1 e]at ha;cases ha
  |some y=>
   have h2:=hab y e;rcases Rh h.inc e a ha with rfl|h1
   ·exact h2
   ·exact Q8 h1 h2
 ·rcases dZ.1 hr with hr|hr
  ·exact h.sub r hr
  ·rw[bG.1 hr];exact hb
 ·rw[KI]at hc;have hc:=lY hc;cases e:opn p x with
  |true=>
   have h1:=hl x hx e;rw[aaJ]at h1;refine⟨b,by simp,?_,?_⟩
   ·by_cases h2:gK x b<0
    ·exact absurd (.inl h2) h1
    ·omega
   ·intro h2;by_cases h3:gK x b<0
    ·exact h1 (.inl h3)
    ·exact h1 (.inr ⟨by omega,h2⟩)
  |false=>
   obtain⟨r,m,q⟩:=h.done x hx e;exact⟨r,kw _ m,q⟩
 ·have:=Rf (p:=opn p) (q:=opn (p++[b])) hb ho (by rw[KI];exact aR (by rw[Gs,Gm];omega)) (λx hx=>by
   rw[KI]at hx;have hx:=iB hx;unfold opn;cases e:p.getLast? with
   |none=>rfl
   |some y=>exact eB (Gs.2 (Q8 (hab y e) (Gs.1 hx))))
  have:=h.cnt;omega
theorem yX.stop{l p:List Clue}{n:Nat}(h:yX l p n)(hn:∀x∈l,opn p x=false):wZ l p:=⟨h.inc,h.sub,λx hx=>h.done x hx (hn x hx)⟩
theorem yX.full{l p:List Clue}(h:yX l p l.length):wZ l p:=h.stop λx hx=>by
 have h1:=h.cnt;have h2:l.countP (opn p)=0:=by omega
 rw[List.countP_eq_zero]at h2;simpa using h2 x hx
end Kd
namespace Kd
open Canon
end Kd
namespace Kd
open Go Go.Ideal Canon Gph
end Kd
namespace Kd
open Go Go.Ideal
theorem KJ:∀{a b:List Int},a.Pairwise (·<·)->b.Pairwise (·<·)->(∀x,x∈a↔x∈b)->a=b
 |[],[],_,_,_=>rfl
 |[],y::b,_,_,h=>by have:=(h y).2 (dx ..);cases this
 |x::a,[],_,_,h=>by have:=(h x).1 (dx ..);cases this
 |x::a,y::b,ha,hb,h=>by
  have hxy:x=y:=by
   rcases dF.1 ((h x).1 (dx ..))with e|hx
   ·exact e
   rcases dF.1 ((h y).2 (dx ..))with e|hy
   ·exact e.symm
   have:=(rH.1 ha).1 y hy;have:=(rH.1 hb).1 x hx;omega
  subst hxy;rw[KJ (rH.1 ha).2 (rH.1 hb).2 λz=>?_];constructor
  ·intro hz;have:=(rH.1 ha).1 z hz;exact(dF.1 ((h z).1 (dA _ hz))).resolve_left (by omega)
  ·intro hz;have:=(rH.1 hb).1 z hz;exact(dF.1 ((h z).2 (dA _ hz))).resolve_left (by omega)
theorem aaL{n:Nat}{x:Int}:x∈upTo' n↔0<=x/\x<(n:Int):=by
 unfold upTo';rw[je];constructor
 ·rintro⟨i,hi,rfl⟩;have:=vU.1 hi;omega
 ·intro h;exact⟨x.toNat,vU.2 (by omega),by omega⟩
theorem aaM(n:Nat):(upTo' n).Pairwise (·<·):=by
 unfold upTo';rw[EE];exact List.Pairwise.imp (λh=>by omega) List.pairwise_lt_range
def dK(n:Nat)(p:Int->Bool):List Int:=(upTo' n).filter p
theorem aaN{n:Nat}{p:Int->Bool}{x:Int}:x∈dK n p↔(0<=x/\x<(n:Int))/\p x=true:=by
 unfold dK;rw[xN,aaL]
theorem Ri(n:Nat)(p:Int->Bool):(dK n p).Pairwise (·<·):=List.Pairwise.filter _ (aaM n)
theorem yY(k:Nat)(p:Int->Bool):dK (k+1) p=dK k p++if p (k:Int)then[(k:Int)]else[]:=by
 unfold dK;rw[tK,EC];congr 1;rw[List.filter_cons];split<;>simp
theorem yZ(n:Nat)(p:Int->Bool):(dK n p).length<=n:=by
 unfold dK;refine mX (MC _ _) ?_;rw[sG];exact bI _
theorem Gt{l:List Int}(hi:l.Pairwise (·<·)){n:Nat}{p:Int->Bool}(h:∀x,x∈l↔(0<=x/\x<(n:Int))/\p x=true):l=dK n p:=
 KJ hi (Ri n p) λx=>(h x).trans aaN.symm
theorem aaO(n:Nat)(holes:List Int):fQ n holes=dK n λi=>!decide (i∈holes):=rfl
theorem Rj{n:Nat}{holes:List Int}(hi:holes.Pairwise (·<·))(hm:∀x∈holes,0<=x/\x<(n:Int)):dK n (λi=>decide (i∈holes))=holes:=
 (Gt hi λx=>⟨λh=>⟨hm x h,eB h⟩,λh=>iB h.2⟩).symm
theorem aaP{n:Nat}{holes:List Int}(hi:holes.Pairwise (·<·))(hm:∀x∈holes,0<=x/\x<(n:Int)):(fQ n holes).length+holes.length=n:=by
 have h1:(dK n λi=>decide (i∈holes)).length=holes.length:=by rw[Rj hi hm]
 have h2:=List.length_eq_countP_add_countP (λi:Int=>decide (i∈holes)) (l:=upTo' n);rw[sG,List.countP_eq_length_filter,List.countP_eq_length_filter]at h2;have h3:fQ n holes=List.filter (λa=>decide ¬decide (a∈holes)=true) (upTo' n):=by
  rw[aaO];unfold dK;congr 1;funext i
  by_cases h:i∈holes<;>simp[h]
 rw[h3];unfold dK at h1;omega
structure aaQ(s w h:Int)(holes:List Int):Prop where
 sh:s=1\/s=2
 wi:1<=w/\w<=16
 he:1<=h/\h<=16
 inc:holes.Pairwise (·<·)
 mem:∀x∈holes,0<=x/\x<w*h
 ne:lm w h holes≠[]
theorem tL{s w h:Int}{holes:List Int}:aaQ s w h holes↔mU s w h holes:=by
 have key:(1<=w/\w<=16)->(1<=h/\h<=16)->holes.Pairwise (·<·)->(∀x∈holes,0<=x/\x<w*h)->(lm w h holes≠[]↔(holes.length:Int)<w*h):=by
  intro hw hh hi hm;have hb:=uZ hw hh;obtain⟨m,hmm⟩:=qy (show 0<=w*h by omega);rw[hmm]at hm⊢;unfold lm;rw[hmm,Ey];have:=aaP hi hm;rw[<- xI];omega
 exact⟨λq=>⟨q.sh,q.wi,q.he,(key q.wi q.he q.inc q.mem).1 q.ne,q.inc,q.mem⟩,λq=>⟨q.sh,q.wi,q.he,q.inc,q.mem,(key q.wi q.he q.inc q.mem).2 q.len⟩⟩
def iq(g:bz)(c:Int):Int×Int:=((g.cells[c.toNat]?).map (lV g)).getD (0,0)
theorem AQ{g:bz}{k:Nat}{x:Int}(h:g.cells[k]? =some x):iq g (k:Int)=lV g x:=by
 unfold iq;rw[Ey,h];rfl
theorem DY{g:bz}{q:Int×(Int×Int)}:q∈bn g↔(0<=q.1/\q.1<(g.cells.length:Int))/\q.2=iq g q.1:=by
 constructor
 ·intro h;refine⟨KF q h,?_⟩;obtain⟨k,hk⟩:=sQ.1 h;have h1:=u7 hk;have hkl:=(bT.1 hk).1;rw[oP]at hkl;have hx:g.cells[k]? =some g.cells[k]:=cK hkl;rw[wV hx]at hk;have hk:=Option.some.inj hk;rw[h1,AQ hx,<- hk]
 ·rintro⟨⟨h1,h2⟩,h3⟩;have hkl:q.1.toNat<g.cells.length:=by omega
  have hx:g.cells[q.1.toNat]? =some g.cells[q.1.toNat]:=cK hkl;have h4:=wV hx;rw[show((q.1.toNat:Nat):Int)=q.1 by omega]at h4;have h5:iq g q.1=lV g g.cells[q.1.toNat]:=by
   have:=AQ hx
   rwa [show((q.1.toNat:Nat):Int)=q.1 by omega]at this
  rw[<- h5,<- h3]at h4;exact bJ h4
def vB(sh:Int)(s t:Int×Int):Bool:=
 if sh=1 then(decide (t.2 - s.2=0)&&(decide (t.1 - s.1=1)||decide (t.1 - s.1= -1)))||(decide (t.1 - s.1=0)&&(decide (t.2 - s.2=1)||decide (t.2 - s.2= -1)))
 else(decide (t.1 - s.1=1)&&decide (t.2 - s.2=0))||(decide (t.1 - s.1= -1)&&decide (t.2 - s.2=0))||(decide (t.1 - s.1=0)&&decide (t.2 - s.2=1))||(decide (t.1 - s.1=0)&&decide (t.2 - s.2= -1))||(decide (t.1 - s.1=1)&&decide (t.2 - s.2= -1))||(decide (t.1 - s.1= -1)&&decide (t.2 - s.2=1))
theorem aaR{g:bz}{s t:Int×Int}:vB g.shape s t=true↔∃d∈dS.take (dJ g),t=(s.1+d.1,s.2+d.2):=by
 obtain⟨s1,s2⟩:=s;obtain⟨t1,t2⟩:=t;unfold vB dJ;by_cases h:g.shape=1
 ·rw[if_pos h,if_pos h];simp[dS];omega
 ·rw[if_neg h,if_neg h];simp[dS];omega
theorem aaS{g:bz}(hg:fV g){p:Int×(Int×Int)}:kL g p=dK g.cells.length λb=>vB g.shape p.2 (iq g b):=by
 refine Gt (Re hg p) λc=>?_;rw[KG hg,aaR];constructor
 ·rintro⟨d,hd,q,hq,h1,rfl⟩;obtain⟨h2,h3⟩:=DY.1 hq;exact⟨h2,d,hd,h3▸h1⟩
 ·rintro⟨h2,d,hd,h1⟩;exact⟨d,hd,(c,iq g c),DY.2 ⟨h2,rfl⟩,h1,rfl⟩
theorem Rk{g:bz}(hg:fV g){k:Nat}(hk:k<g.cells.length):(bD g)[k]? =some (dK g.cells.length λb=>vB g.shape (iq g k) (iq g b)):=by
 unfold bD;have hx:g.cells[k]? =some g.cells[k]:=cK hk;rw[eY,wV hx,jE,aaS hg,AQ hx]
theorem DT{α β:Type}[DecidableEq α](b:α)(v:β):∀m:List (α×β),(upd b v m).map (·.1)=if b∈m.map (·.1)then m.map (·.1)else m.map (·.1)++[b]
 |[]=>by
  rw[if_neg (by simp)];rfl
 |(a,u)::m=>by
  unfold upd;by_cases e:b=a
  ·rw[if_pos e,if_pos (by rw[e];simp),e];rfl
  ·rw[if_neg e,gY,gY,DT b v m];by_cases h:b∈m.map (·.1)
   ·rw[if_pos h,if_pos (dA _ h)]
   ·rw[if_neg h,if_neg (by rw[dF,not_or];exact⟨e,h⟩)];rfl
def nI(kf:Int×Int->Int×Bool)(ps:List (Int×(Int×Int)))(n:Int):List Int:=(ps.filter λp=>(kf p.2).2&&decide ((kf p.2).1=n)).map (·.1)
theorem KM(kf:Int×Int->Int×Bool)(ps:List (Int×(Int×Int)))(p:Int×(Int×Int))(n:Int):nI kf (ps++[p]) n=nI kf ps n++if((kf p.2).2&&decide ((kf p.2).1=n))=true then[p.1]else[]:=by
 unfold nI;rw[EC,eX];congr 1;rw[List.filter_cons];split<;>simp
theorem aaT(kf:Int×Int->Int×Bool)(m:Nat):∀ps:List (Int×(Int×Int)),ps.length=m->((kg kf ps).map (·.1)).Nodup/\∀n,(n∈(kg kf ps).map (·.1)↔nI kf ps n≠[])/\(dN n (kg kf ps)).getD []=nI kf ps n:=by
 induction m with
 |zero=>
  intro ps h;rw[jl.1 h];exact⟨um,λn=>⟨by simp[kg,nI],rfl⟩⟩
 |succ m ih=>
  intro ps h;obtain⟨qs,p,rfl⟩:∃qs p,ps=qs++[p]:=⟨ps.dropLast,ps.getLast (by intro e;rw[e]at h;cases h),(EG _).symm⟩
  obtain⟨h1,h2⟩:=ih qs (by simpa using h);rw[Ku];unfold wW;cases hb:(kf p.2).2 with
  |false=>
   refine⟨h1,λn=>?_⟩;rw[KM,hb,if_neg (by simp),gD];exact h2 n
  |true=>
   dsimp only[cond];rw[DT];refine⟨?_,λn=>⟨?_,?_⟩⟩
   ·split
    ·exact h1
    ·rename_i hn;rw[iA];exact⟨h1,by simp,λa ha b hb'=>by rw[bG.1 hb'];exact λe=>hn (e▸ha)⟩
   ·rw[KM,hb];by_cases e:(kf p.2).1=n
    ·have hc:(true&&decide ((kf p.2).1=n))=true:=by simp[e]
     rw[if_pos hc];split
     ·rename_i hn;rw[e]at hn;exact⟨λ_=>by simp,λ_=>hn⟩
     ·rw[e];exact⟨λ_=>by simp,λ_=>ni _ (bG.2 rfl)⟩
    ·have hc:¬(true&&decide ((kf p.2).1=n))=true:=by simp[e]
     rw[if_neg hc,gD];split
     ·exact(h2 n).1
     ·rw[dZ,(h2 n).1];simp only[bG];exact⟨λh=>h.resolve_right (λx=>e x.symm),.inl⟩
   ·rw[yV,KM,hb];by_cases e:(kf p.2).1=n
    ·rw[if_pos e.symm,if_pos (by simp[e]),vR,(h2 _).2,e]
    ·rw[if_neg (λx=>e x.symm),if_neg (by simp[e]),gD];exact(h2 n).2
theorem Rl{g:bz}(kf:Int×Int->Int×Bool)(n:Int):nI kf (bn g) n=dK g.cells.length λc=>(kf (iq g c)).2&&decide ((kf (iq g c)).1=n):=by
 refine Gt ?_ λc=>?_
 ·unfold nI;rw[EE];refine List.Pairwise.filter _ ?_;rw[Bq];intro i j hi hj hij;have h1:=u7 (cK hi);have h2:=u7 (cK hj);rw[h1,h2];omega
 ·unfold nI;rw[je];constructor
  ·rintro⟨p,hp,rfl⟩;obtain⟨h1,h2⟩:=xN.1 hp;obtain⟨h3,h4⟩:=DY.1 h1;rw[<- h4];exact⟨h3,h2⟩
  ·rintro⟨h1,h2⟩;exact⟨(c,iq g c),xN.2 ⟨DY.2 ⟨h1,rfl⟩,h2⟩,rfl⟩
def tN(lo:Int)(k:Nat):List Int:=(List.range k).map λi:Nat=>lo+(i:Int)
theorem aaU(lo:Int)(k:Nat):tN lo (k+1)=tN lo k++[lo+(k:Int)]:=by
 unfold tN;rw[Hu,eX];rfl
theorem aaV{lo:Int}{k:Nat}{x:Int}:x∈tN lo k↔lo<=x/\x<lo+(k:Int):=by
 unfold tN;rw[je];constructor
 ·rintro⟨i,hi,rfl⟩;have:=vU.1 hi;omega
 ·intro h;exact⟨(x - lo).toNat,vU.2 (by omega),by omega⟩
theorem aaW(lo:Int)(k:Nat):(tN lo k).Pairwise (·<·):=by
 unfold tN;rw[EE];exact List.Pairwise.imp (λh=>by omega) List.pairwise_lt_range
def w9(L:Int->List Int)(lo:Int)(k:Nat):List (List Int):=((tN lo k).map L).filter λl=>!l.isEmpty
theorem Rm(L:Int->List Int)(lo:Int)(k:Nat):w9 L lo (k+1)=w9 L lo k++if L (lo+(k:Int))=[]then[]else[L (lo+(k:Int))]:=by
 unfold w9;rw[aaU,eX,EC];congr 1;rw[sS,List.filter_cons];cases h:L (lo+(k:Int))with
 |nil=>rfl
 |cons x l=>simp
theorem Rn{g:bz}(kf:Int×Int->Int×Bool){lo:Int}{k:Nat}(hk:∀p∈bn g,(kf p.2).2=true->lo<=(kf p.2).1/\(kf p.2).1<lo+(k:Int)):jk g kf=w9 (nI kf (bn g)) lo k:=by
 obtain⟨h1,h2⟩:=aaT kf _ (bn g) rfl;have h3:cO ((kg kf (bn g)).map (·.1))=(tN lo k).filter λn=>!(nI kf (bn g) n).isEmpty:=by
  refine KJ (KH h1) (List.Pairwise.filter _ (aaW lo k)) λn=>?_;rw[vw,(h2 n).1,xN,aaV];have hne:((!(nI kf (bn g) n).isEmpty)=true)↔nI kf (bn g) n≠[]:=by
   cases nI kf (bn g) n<;>simp
  rw[hne];refine⟨λh=>⟨?_,h⟩,λh=>h.2⟩;obtain⟨c,hc⟩:=List.exists_mem_of_ne_nil _ h;unfold nI at hc;obtain⟨p,hp,_⟩:=je.1 hc;obtain⟨hp1,hp2⟩:=xN.1 hp;simp only[fZ,vQ]at hp2;rw[<- hp2.2];exact hk p hp1 hp2.1
 unfold jk w9;rw[h3,List.filter_map];refine Ez λn _=>?_;exact(h2 n).2
theorem Ro{g:bz}(c:Int×Int->Bool):jk g (λs=>(0,c s))=if dK g.cells.length (λb=>c (iq g b))=[]then[]else[dK g.cells.length λb=>c (iq g b)]:=by
 rw[Rn (lo:=0) (k:=1) (λs=>(0,c s)) (λp _ _=>⟨Int.le_refl 0,by omega⟩)];rw[show(1:Nat)=0+1 from rfl,Rm];have e:nI (λs=>(0,c s)) (bn g) (0+((0:Nat):Int))=dK g.cells.length λb=>c (iq g b):=by
  rw[Rl];congr 1;funext b
  simp
 rw[e];rfl
theorem aaX{g:bz}(hg:fV g){k:Nat}{l:List Int}(hl:(bD g)[k]? =some l):cO (l++[(k:Int)])=dK g.cells.length λb=>decide (b=(k:Int))||decide (b∈l):=by
 have hk:k<g.cells.length:=by have:=(bT.1 hl).1;rwa [AP]at this
 have hls:∀c∈l,(0<=c/\c<(g.cells.length:Int)):=(aaz l (bJ hl)).2;have hlt:l.Pairwise (·<·):=by
  have:=Rk hg hk;rw[hl]at this;rw[Option.some.inj this];exact Ri _ _
 have hkl:(k:Int)∉l:=λh=>by
  obtain⟨j,hj⟩:=sQ.1 h;exact(aaH hg k l hl j k hj).2.2.1 rfl
 refine Gt (KH ?_) λc=>?_
 ·rw[iA];exact⟨hlt.imp (λh=>by omega),by simp,λa ha b hb=>by rw[bG.1 hb];exact λe=>hkl (e▸ha)⟩
 ·rw[vw,dZ,bG];simp only[ug,vQ];constructor
  ·rintro(h|rfl)
   ·exact⟨hls c h,.inr h⟩
   ·exact⟨by omega,.inl rfl⟩
  ·rintro⟨_,h|h⟩
   ·exact .inr h
   ·exact .inl h
