/-
  Puzzles, in plain lists: clues that are right.
-/
import Derived.Test.YtoohgkkmdnbnfaaGreatDoorPlainBA
import Derived.Test.YtoohgkkmdnbnfaaGreatDoorPlainAA
set_option linter.all false
namespace Kd
open Go Go.Ideal Canon
def eF:Enc Clue:=⟨3,Value,λg v=>[.int .i64 g.aG,.int .i64 g.at_,v],λg v=>[ah aa v g.values],λ_ _=>rfl⟩
abbrev IE(g:Clue)(v:Value):Value:=.agg ⟨[.int .i64 g.aG,.int .i64 g.at_,v]⟩
def si:List Int->Int
 |[]=>0
 |a::l=>if a≠0 then a else si l
def gq(a b:Clue):Int:=si [gB a.aG b.aG,gB a.at_ b.at_]
theorem acO(a b:Clue):gq a b=iP gB [a.aG,a.at_] [b.aG,b.at_]:=by
 unfold gq;simp only[si,iP]
theorem tQ{a b:Clue}:gq a b<0↔a.aG<b.aG\/(a.aG=b.aG/\a.at_<b.at_):=by
 unfold gq gB;simp only[si];split<;>split at *<;>(try split at *)<;>(try split at *)<;>(try split at *)<;>omega
theorem Fv{a b c:Clue}(h1:gq a b<0)(h2:gq b c<0):gq a c<0:=by
 rw[tQ]at *;omega
def yB(k:bS)(g:Clue):Prop:=∃(c:iY) (l:List (List Int)),0<=g.aG/\k.decl.aJ[g.aG.toNat]? =some c/\k.lists[c.family.toNat]? =some l/\0<=g.at_/\g.at_<l.length/\
 ((c.type=1/\g.values.length=1/\∀x∈g.values,0<=x/\x<=(k.decl.symbols.length:Int) - 1)\/(c.type=2/\g.values.length=1/\∀x∈g.values,c.lo<=x/\x<=c.hi)\/
   (c.type≠1/\c.type≠2/\g.values.length<=8/\∀x∈g.values,1<=x/\x<=256))
structure iK(k:bS)(p:List Clue):Prop where
 len:p.length<=512
 right:∀g∈p,yB k g
 sorted:∀(i:Nat) a b,p[i]? =some a->p[i+1]? =some b->gq a b<0
def MG(k:bS):Prop:=∀c∈k.decl.aJ,0<=c.family/\c.family<k.lists.length
end Kd
namespace Kd
open Go Go.Ideal Canon
def Tw(k:bS)(i:Int):Int:=match k.decl.aJ[i.toNat]? with|some c=>c.family|none=>0
def oh(k:bS)(g:Clue):List Int:=(k.lists.getD (Tw k g.aG).toNat []).getD g.at_.toNat []
def IG(k:bS)(p:List Clue)(r:aU):List (List Int×List Int):=
 if r.aG<0 then(k.lists.getD r.family.toNat []).map λl=>(l,[r.n])else(p.filter λg=>decide (g.aG=r.aG)).map λg=>(oh k g,g.values)
theorem uI{α:Type}{l:List α}{n:Nat}{x d:α}(h:l[n]? =some x):l.getD n d=x:=by simp[List.getD,h]
theorem yB.cells{k:bS}{g:Clue}(h:yB k g):∃(c:iY) (l:List (List Int)) (ps:List Int),k.decl.aJ[g.aG.toNat]? =some c/\k.lists[c.family.toNat]? =some l/\l[g.at_.toNat]? =some ps/\0<=g.aG/\0<=g.at_/\g.at_<l.length/\oh k g=ps:=by
 obtain⟨c,l,h1,h2,h3,h4,h5,_⟩:=h;have h6:l[g.at_.toNat]? =some (l[g.at_.toNat]'(by omega)):=cB _;refine⟨c,l,_,h2,h3,h6,h1,h4,h5,?_⟩;unfold oh Tw;rw[h2];dsimp only;rw[uI h3,uI h6]
end Kd
namespace Kd
open Go Go.Ideal Canon
end Kd
namespace Kd
open Go Go.Ideal
def zZ(n:Nat)(l:List Int):Prop:=l.length<=4096/\∀c∈l,0<=c/\c<(n:Int)
theorem II{g:bA}:∀p∈bB g,0<=p.1/\p.1<(g.cells.length:Int):=by
 intro p hp;obtain⟨k,hk⟩:=uk.1 hp;have hkl:=(bO.1 hk).1;rw[oC]at hkl;have:=wB hk;omega
theorem acP(kf:Int×Int->Int×Bool)(n:Nat):∀ps:List (Int×(Int×Int)),ps.length=n->∀a,∀c∈(dJ a (iZ kf ps)).getD [],∃p∈ps,p.1=c:=by
 induction n with
 |zero=>
  intro ps h a c hc;rw[ji.1 h]at hc;have hc:c∈([]:List Int):=hc;cases hc
 |succ n ih=>
  intro ps h a c hc;obtain⟨qs,p,rfl⟩:∃qs p,ps=qs++[p]:=⟨ps.dropLast,ps.getLast (by intro e;rw[e]at h;cases h),(AX _).symm⟩
  have hq:qs.length=n:=by simpa using h
  have hih:∀a,∀c∈(dJ a (iZ kf qs)).getD [],∃p'∈qs++[p],p'.1=c:=λa c hc=>by
   obtain⟨q,h1,h2⟩:=ih qs hq a c hc;exact⟨q,jP _ h1,h2⟩
  rw[Fp]at hc;unfold uK at hc;cases hb:(kf p.2).2 with
  |false=>
   rw[hb]at hc;exact hih a c hc
  |true=>
   rw[hb]at hc;have hc:c∈(dJ a (upd (kf p.2).1 ((dJ (kf p.2).1 (iZ kf qs)).getD []++[p.1]) (iZ kf qs))).getD []:=hc;rw[wD]at hc;by_cases e:a=(kf p.2).1
   ·rw[if_pos e,uh]at hc;rcases dV.1 hc with hc|hc
    ·exact hih _ c hc
    ·exact⟨p,by simp,(bH.1 hc).symm⟩
   ·rw[if_neg e]at hc;exact hih a c hc
theorem Fw{g:bA}(hg:fq g)(kf:Int×Int->Int×Bool):∀l∈iJ g kf,zZ g.cells.length l:=by
 intro l hl;have hlen:=(Fq hg kf).2 l hl;refine⟨by omega,λc hc=>?_⟩;unfold iJ at hl;obtain⟨n,_,rfl⟩:=fo.1 hl;obtain⟨p,hp,rfl⟩:=acP kf _ (bB g) rfl n c hc;exact II p hp
theorem MH{a b:List (List Int)}{l:List Int}(h:l∈lN a b):l∈a\/l∈b:=by
 unfold lN at h;induction b generalizing a with
 |nil=>exact .inl h
 |cons x b ih=>
  rw[ug]at h;rcases ih h with h|h
  ·unfold wE at h;split at h
   ·exact .inl h
   ·rcases dV.1 h with h|h
    ·exact .inl h
    ·exact .inr (by rw[bH.1 h];simp)
  ·exact .inr (cO _ h)
theorem Tx{o:Option Value}{n:Int}(h:numOf o=some n):o=some (.int .i64 n):=by
 unfold numOf at h;split at h
 ·cases h;rfl
 ·cases h
theorem acQ{g:bA}{p:Int×(Int×Int)}:zZ g.cells.length (lq g p):=by
 unfold lq;refine⟨?_,λc hc=>?_⟩
 ·have h1:(di (gp (fu (bB g)) p.2 (eB.take (dQ g)))).length=(gp (fu (bB g)) p.2 (eB.take (dQ g))).length:=(xk _ _).length_eq;have h2:=Iw (fu (bB g)) p.2 (eB.take (dQ g));have h3:=zY g;rw[gM]at h2;omega
 ·rw[uL]at hc;unfold gp at hc;obtain⟨d,_,hd⟩:=Gi.1 hc;obtain⟨c',h1,q,hq,h2⟩:=Te _ _ (Tx hd);injection h1 with _ h1;rw[h1,<- h2];exact II q hq
theorem IJ{g:bA}:∀l∈bI g,zZ g.cells.length l:=by
 intro l hl;obtain⟨p,_,rfl⟩:=fo.1 hl;exact acQ
theorem acR(l:List Int):(di l).length=l.length:=(xk l _).length_eq
theorem acS{g:bA}(hg:fq g)(k:Int):∀l∈dA g k,zZ g.cells.length l:=by
 have hlen:=hg.len;have hnl:=wC g;have hnm:=Fu (g:=g);intro l hl;unfold dA at hl;split at hl
 ·unfold kE at hl;obtain⟨i,hi,rfl⟩:=fo.1 hl;have:=uj.1 hi;exact⟨by simp,λc hc=>by rw[bH.1 hc];omega⟩
 split at hl
 ·exact Fw hg _ l hl
 split at hl
 ·exact Fw hg _ l hl
 split at hl
 ·unfold kU at hl;split at hl
  ·exact Fw hg _ l hl
  split at hl
  ·rcases MH hl with hl|hl
   ·exact Fw hg _ l hl
   ·exact Fw hg _ l hl
  ·cases hl
 split at hl
 ·exact IJ l hl
 split at hl
 ·unfold kF at hl;obtain⟨⟨x,i⟩,hx,rfl⟩:=fo.1 hl;have hx:=xm.1 hx;have hxm:=bG hx;have hi:=(bO.1 hx).1;have h6:=hnm x hxm;refine⟨by rw[acR];simp;omega,λc hc=>?_⟩;rw[uL]at hc;rcases dV.1 hc with hc|hc
  ·exact(IJ x hxm).2 c hc
  ·rw[bH.1 hc];dsimp only;omega
 split at hl
 ·unfold ic at hl;obtain⟨⟨x,i⟩,hx,hl⟩:=List.mem_flatMap.1 hl;have hx:=xm.1 hx;have hxm:=bG hx;have hi:=(bO.1 hx).1;unfold jF at hl;obtain⟨j,hj,rfl⟩:=fo.1 hl;have hj:=(um.1 hj).1;refine⟨by simp,λc hc=>?_⟩;simp only[dF,Gh,or_false]at hc;rcases hc with rfl|rfl
  ·omega
  ·exact(IJ x hxm).2 _ hj
 ·rw[bH.1 hl];refine⟨by rw[r9];omega,λc hc=>?_⟩;unfold upTo' at hc;obtain⟨i,hi,rfl⟩:=fo.1 hc;have:=uj.1 hi;omega
theorem acT{g:bA}(hg:fq g){rs:List (List Int)}(hr:wG g rs):∀l∈dU g rs,zZ g.cells.length l:=by
 intro l hl;obtain⟨ps,hps,rfl⟩:=fo.1 hl;have hP:=hr.all ps hps;have h1:=IC hP.mem hP.nd;have h2:=hg.len;refine⟨by unfold eY;rw[bR];omega,λc hc=>?_⟩;obtain⟨p,hp,rfl⟩:=fo.1 hc;have:=MF (hP.mem p hp);omega
theorem acU{d:bE}(hg:fq (aO d))(hr:∀r∈d.regions,wG (aO d) r.lists):∀l∈kV d,∀ps∈l,zZ (aO d).cells.length ps:=by
 intro l hl ps hps;unfold kV at hl;rcases dV.1 hl with hl|hl
 ·obtain⟨f,_,rfl⟩:=fo.1 hl;exact acS hg _ ps hps
 ·obtain⟨r,hrm,rfl⟩:=fo.1 hl;exact acT hg (hr r hrm) ps hps
theorem acV{g:bA}(hw:1<=g.w){x y:Int}(hx:0<=x)(hy:0<=y)(h:mW g x=mW g y):x=y:=by
 unfold mW at h;have h1:=congrArg Prod.fst h;have h2:=congrArg Prod.snd h;dsimp only at h1 h2;rw[sI hx,sI hy]at h2;rw[sI hx,sI hy,De hx,De hy,h2]at h1;have h3:x%g.w=y%g.w:=by
  split at h1<;>omega
 have e1:=OB x g.w;have e2:=OB y g.w;rw[h2,h3]at e1;omega
theorem IK{g:bA}(hg:fq g){p q:Int×(Int×Int)}(hp:p∈bB g)(hq:q∈bB g)(h:p.1=q.1\/p.2=q.2):p=q:=by
 obtain⟨k,hk⟩:=uk.1 hp;obtain⟨j,hj⟩:=uk.1 hq;have hkl:=(bO.1 hk).1;have hjl:=(bO.1 hj).1;rw[oC]at hkl hjl;rcases h with h|h
 ·have h1:=wB hk;have h2:=wB hj;have:k=j:=by omega
  subst this;rw[hk]at hj;exact Option.some.inj hj
 ·have hx:g.cells[k]? =some g.cells[k]:=cB hkl;have hy:g.cells[j]? =some g.cells[j]:=cB hjl;have hkk:=hk;have hjj:=hj;rw[wz hx]at hk;rw[wz hy]at hj;have hk:=Option.some.inj hk;have hj:=Option.some.inj hj;have hs:mW g g.cells[k]=mW g g.cells[j]:=by rw[<- hk,<- hj]at h;exact h
  have he:=acV (by have:=hg.make.wi;omega) (hg.cell _ (wV _)).1 (hg.cell _ (wV _)).1 hs;have mo:g.cells.Pairwise (·<·):=by rw[hg.cells];exact Mv _ _
  have hkj:k=j:=by
   apply Classical.byContradiction;intro hne;have:=AY.1 mo;rcases Nat.lt_or_gt_of_ne hne with hl|hl
   ·have:=this k j hkl hjl hl;omega
   ·have:=this j k hjl hkl hl;omega
  subst hkj;rw[hkk]at hjj;exact Option.some.inj hjj
theorem acW(n:Nat):∀xs:List (Int×(Int×Int)),xs.length=n->(∀p∈xs,∀q∈xs,p.2=q.2->p=q)->∀p∈xs,dJ p.2 (fu xs)=some (.int .i64 p.1):=by
 induction n with
 |zero=>intro xs h _ p hp;rw[ji.1 h]at hp;cases hp
 |succ n ih=>
  intro xs h hi p hp;obtain⟨ys,q,rfl⟩:∃ys q,xs=ys++[q]:=⟨xs.dropLast,xs.getLast (by intro e;rw[e]at h;cases h),(AX _).symm⟩
  rw[Mw,wD];by_cases e:p.2=q.2
  ·have:=hi p hp q (by simp) e;subst this;rw[if_pos rfl]
  ·rw[if_neg e];refine ih ys (by simpa using h) (λa ha b hb=>hi a (jP _ ha) b (jP _ hb)) p ?_;rcases dV.1 hp with hp|hp
   ·exact hp
   ·rw[bH.1 hp]at e;exact absurd rfl e
theorem acX(n:Nat):∀xs:List (Int×(Int×Int)),xs.length=n->∀a v,dJ a (fu xs)=some v->∃p∈xs,p.2=a/\v=.int .i64 p.1:=by
 induction n with
 |zero=>
  intro xs h a v hv;rw[ji.1 h]at hv;cases hv
 |succ n ih=>
  intro xs h a v hv;obtain⟨ys,q,rfl⟩:∃ys q,xs=ys++[q]:=⟨xs.dropLast,xs.getLast (by intro e;rw[e]at h;cases h),(AX _).symm⟩
  rw[Mw,wD]at hv;by_cases e:a=q.2
  ·rw[if_pos e]at hv;exact⟨q,by simp,e.symm,(Option.some.inj hv).symm⟩
  ·rw[if_neg e]at hv;obtain⟨p,h1,h2⟩:=ih ys (by simpa using h) a v hv;exact⟨p,jP _ h1,h2⟩
theorem IL{g:bA}(hg:fq g){s:Int×Int}{d:Int×Int}{n:Int}:numOf (dJ (s.1+d.1,s.2+d.2) (fu (bB g)))=some n↔∃q∈bB g,q.2=(s.1+d.1,s.2+d.2)/\q.1=n:=by
 constructor
 ·intro h;obtain⟨q,hq,h1,h2⟩:=acX _ (bB g) rfl _ _ (Tx h);injection h2 with _ h2;exact⟨q,hq,h1,h2.symm⟩
 ·rintro⟨q,hq,h1,h2⟩;rw[<- h1,acW _ (bB g) rfl (λa ha b hb e=>IK hg ha hb (.inr e)) q hq,<- h2];rfl
theorem MI{g:bA}(hg:fq g){p:Int×(Int×Int)}{n:Int}:n∈lq g p↔∃d∈eB.take (dQ g),∃q∈bB g,q.2=(p.2.1+d.1,p.2.2+d.2)/\q.1=n:=by
 unfold lq;rw[uL];unfold gp;rw[Gi];constructor
 ·rintro⟨d,hd,h⟩;exact⟨d,hd,(IL hg).1 h⟩
 ·rintro⟨d,hd,h⟩;exact⟨d,hd,(IL hg).2 h⟩
theorem Ty(g:bA):dQ g=4\/dQ g=6:=by unfold dQ;split<;>simp
theorem acY{m:Nat}(hm:m=4\/m=6):∀d∈eB.take m,(-d.1, -d.2)∈eB.take m:=by
 rcases hm with rfl|rfl<;>decide
theorem acZ{m:Nat}:∀d∈eB.take m,¬(d.1=0/\d.2=0):=by
 intro d hd;have:=Jy hd;revert d;have:∀d∈eB,¬(d.1=0/\d.2=0):=by decide
 intro d _ hd;exact this d hd
theorem ac0{m:Nat}(hm:m=4\/m=6):(eB.take m).Nodup:=by
 rcases hm with rfl|rfl<;>decide
theorem ac3(l:List Int):(di l).Pairwise (λx y=>x<=y):=by
 have:=Oz (le:=λx y:Int=>decide (x<=y)) (λa b c h1 h2=>by simp at h1 h2⊢;omega) (λa b=>by simp;omega) l;exact this.imp (λh=>by simpa using h)
theorem IM{l:List Int}(h:l.Nodup):(di l).Pairwise (·<·):=by
 have h1:=ac3 l;have h2:(di l).Nodup:=(xk l _).symm.nodup h;have h3:(di l).Pairwise (λx y=>x<=y/\x≠y):=List.Pairwise.and h1 h2;exact h3.imp (λh=>by omega)
theorem MJ{g:bA}(hg:fq g)(p:Int×(Int×Int)):(lq g p).Pairwise (·<·):=by
 unfold lq;refine IM ?_;unfold gp;refine List.Pairwise.filterMap _ ?_ (ac0 (Ty g));intro d1 d2 hne b hb b' hb' e;subst e;obtain⟨q1,h1,h2,h3⟩:=(IL hg).1 hb;obtain⟨q2,k1,k2,k3⟩:=(IL hg).1 hb';have:=IK hg h1 k1 (.inl (by rw[h3,k3]));subst this;rw[h2]at k2;apply hne;have e1:=congrArg Prod.fst k2;have e2:=congrArg Prod.snd k2;dsimp only at e1 e2;exact Prod.ext (by omega) (by omega)
theorem Tz{g:bA}(hg:fq g)(i:Nat)(l:List Int)(hl:(bI g)[i]? =some l)(k:Nat)(n:Int)(hn:l[k]? =some n):
 0<=n/\n<(bI g).length/\n≠i/\(∀m,0<k->l[k - 1]? =some m->m<n)/\∀l',(bI g)[n.toNat]? =some l'->(i:Int)∈l':=by
 have hnm:=wC g;unfold bI at hl;rw[eZ]at hl;obtain⟨p,hp,rfl⟩:=mI.1 hl;have hp1:=wB hp;have hpm:=bG hp;obtain⟨d,hd,q,hq,hq2,hq1⟩:=(MI hg).1 (bG hn);have hqi:=II q hq;refine⟨by omega,by omega,λe=>?_,λm hk hm=>?_,λl' hl'=>?_⟩
 ·have:q=p:=IK hg hq hpm (.inl (by omega));subst this;have e1:=congrArg Prod.fst hq2;have e2:=congrArg Prod.snd hq2;dsimp only at e1 e2;exact acZ d hd ⟨by omega,by omega⟩
 ·have hlt:=MJ hg p;obtain⟨a1,a2⟩:=bO.1 hm;obtain⟨b1,b2⟩:=bO.1 hn;have:=AY.1 hlt (k - 1) k a1 b1 (by omega);rw[a2,b2]at this;exact this
 ·unfold bI at hl';rw[eZ]at hl';obtain⟨q',hq',rfl⟩:=mI.1 hl';have h1:=wB hq';have:q'=q:=IK hg (bG hq') hq (.inl (by omega));subst this;rw[MI hg];refine⟨(-d.1, -d.2),acY (Ty g) d hd,p,hpm,?_,hp1⟩;rw[hq2];dsimp only;exact Prod.ext (by dsimp only;omega) (by dsimp only;omega)
end Kd
namespace Kd
open Go Go.Ideal Canon Gph
def yC(r:aU)(vals:List Int):Int:=if r.bZ=⟨⟨[]⟩⟩then r.n else vals.getD 0 0
def nU(r:aU)(vals:List Int)(most:Int):Int×Int:=if r.op=2 then(0,yC r vals)else if r.op=3 then(yC r vals,max (yC r vals) most)else(yC r vals,yC r vals)
def gu(r:aU):Int:=if r.kind=6\/r.kind=7\/r.kind=8 then 6 else if r.kind=9\/r.kind=10 then 7 else if r.kind=11 then 0 else r.family
def iU(r:aU):Nat:=if r.kind=1\/r.kind=4 then 2 else 0
def TA(k:Int):Int:=if k=1 then 1 else if k=4 then 4 else if k=6 then 1 else if k=7 then 6 else if k=8 then 7 else if k=9 then 8 else 9
def ko(r:aU)(cells vals:List Int):iG:=
 if r.kind=2 then⟨2,cells,r.set,0,(nU r vals cells.length).1,(nU r vals cells.length).2,[],0,0⟩
 else if r.kind=3 then⟨3,cells,0,0,(nU r vals 65536).1,(nU r vals 65536).2,[],0,0⟩
 else if r.kind=5 then⟨5,cells,r.set,0,0,0,vals,0,0⟩
 else if r.kind=11 then⟨2,cells,((1<<<(vals.getD 0 0).toNat:Nat):Int),0,1,1,[],0,0⟩
 else⟨TA r.kind,cells,r.set,r.other,r.n,0,[],0,0⟩
end Kd
namespace Kd
open Go Go.Ideal Canon Gph
def oD(p:List Clue)(c:Int)(at_:Int):Option (List Int):=(p.find? λg=>decide (g.aG=c/\g.at_=at_)).map (·.values)
def lu(p:List Clue)(r:aU)(x:List Int×Nat):Option (Nat×List Int×List Int):=if r.aG<0 then some (x.2,x.1,[])else(oD p r.aG (x.2:Int)).map λv=>(x.2,x.1,v)
def jw(p:List Clue)(r:aU)(ls:List (List Int)):List (Nat×List Int×List Int):=ls.zipIdx.filterMap (lu p r)
theorem ac4{p:List Clue}{r:aU}{ls:List (List Int)}{j:Nat}{l:List Int}(h:ls[j]? =some l):jw p r (ls.take (j+1))=jw p r (ls.take j)++(lu p r (l,j)).toList:=by
 have hk:=(bO.1 h).1;unfold jw;rw[bY h,AU,Gn,gM,y7 (by omega)];congr 1;rw[List.zipIdx_cons,List.zipIdx_nil,eT,JI,List.filterMap_nil];cases lu p r (l,j)<;>rfl
abbrev LA:=Nat×(List Int×Value)×(List Int×Value)
def nV(x:LA):Nat×List Int×List Int:=(x.1,x.2.1.1,x.2.2.1)
def Fx(x:LA):List Value:=[.int .i64 (x.1:Int),.agg ⟨[x.2.1.2,x.2.2.2]⟩]
def Aa(x:LA):List aH:=[ah aa x.2.1.2 x.2.1.1,ah aa x.2.2.2 x.2.2.1]
def yD(l:List (Nat×List Int×List Int)):List LA:=l.map λy=>(y.1,(y.2.1,.nilFunc),(y.2.2,.nilFunc))
theorem TB(l:List (Nat×List Int×List Int)):(yD l).map nV=l:=by
 unfold yD;rw[u7];have:nV∘(λy:Nat×List Int×List Int=>((y.1,(y.2.1,Value.nilFunc),(y.2.2,Value.nilFunc)):LA))=id:=rfl;rw[this,List.map_id]
end Kd
namespace Kd
open Go Go.Ideal Canon Gph
theorem ac5(kf:Int×Int->Int×Bool)(n:Nat):∀ps:List (Int×(Int×Int)),ps.length=n->∀a,((dJ a (iZ kf ps)).getD []).Sublist (ps.map (·.1)):=by
 induction n with
 |zero=>
  intro ps h a;rw[ji.1 h];exact List.Sublist.refl _
 |succ n ih=>
  intro ps h a;obtain⟨qs,p,rfl⟩:∃qs p,ps=qs++[p]:=⟨ps.dropLast,ps.getLast (by intro e;rw[e]at h;cases h),(AX _).symm⟩
  have hq:qs.length=n:=by simpa using h
  have ih:=ih qs hq;rw[dW,Fp];unfold uK;cases hb:(kf p.2).2 with
  |false=>exact(ih a).trans (List.sublist_append_left _ _)
  |true=>
   show((dJ a (upd (kf p.2).1 ((dJ (kf p.2).1 (iZ kf qs)).getD []++[p.1]) (iZ kf qs))).getD []).Sublist _;rw[wD];by_cases e:a=(kf p.2).1
   ·rw[if_pos e,uh];exact(ih _).append (List.Sublist.refl _)
   ·rw[if_neg e];exact(ih a).trans (List.sublist_append_left _ _)
theorem ac6{g:bA}:(bB g).map (·.1)=upTo' g.cells.length:=by
 apply jW;intro i;unfold upTo';rw[eZ,eZ];by_cases h:i<g.cells.length
 ·rw[wz (cB h),Gf h];rfl
 ·rw[iD (by rw[oC];omega),iD (by rw[Da];omega)];rfl
theorem TC(n:Nat):(upTo' n).Nodup:=by
 unfold upTo';refine List.Pairwise.map _ (λa b h=>?_) List.nodup_range;intro e;apply h;omega
theorem Fy{g:bA}(kf:Int×Int->Int×Bool):∀l∈iJ g kf,l.Nodup:=by
 intro l hl;unfold iJ at hl;obtain⟨n,_,rfl⟩:=fo.1 hl;have:=ac5 kf _ (bB g) rfl n;rw[ac6]at this;exact this.nodup (TC _)
theorem TD{g:bA}(hg:fq g)(p:Int×(Int×Int)):(lq g p).Nodup:=(MJ hg p).imp (λh=>by omega)
theorem ac7{l:List Int}(h:l.Nodup):(di l).Nodup:=(IM h).imp (λh=>by omega)
theorem ac8{bn:List (List Int)}{l:List Int}(h:l∈ic bn):∃(i:Nat) (x:List Int) (j:Int),bn[i]? =some x/\j∈x/\(i:Int)<j/\l=[(i:Int),j]:=by
 unfold ic at h;obtain⟨⟨x,i⟩,hx,hl⟩:=List.mem_flatMap.1 h;unfold jF at hl;obtain⟨j,hj,rfl⟩:=fo.1 hl;obtain⟨h1,h2⟩:=um.1 hj;exact⟨i,x,j,xm.1 hx,h1,gY h2,rfl⟩
theorem ac9{g:bA}(hg:fq g)(k:Int):∀l∈dA g k,l.Nodup:=by
 intro l hl;unfold dA at hl;split at hl
 ·unfold kE at hl;obtain⟨i,hi,rfl⟩:=fo.1 hl;simp
 split at hl
 ·exact Fy _ l hl
 split at hl
 ·exact Fy _ l hl
 split at hl
 ·unfold kU at hl;split at hl
  ·exact Fy _ l hl
  split at hl
  ·rcases MH hl with hl|hl
   ·exact Fy _ l hl
   ·exact Fy _ l hl
  ·cases hl
 split at hl
 ·unfold bI at hl;obtain⟨p,_,rfl⟩:=fo.1 hl;exact TD hg p
 split at hl
 ·unfold kF at hl;obtain⟨⟨x,i⟩,hx,rfl⟩:=fo.1 hl;have hx:=xm.1 hx;have hxm:=bG hx;refine ac7 ?_;rw[iN];refine⟨?_,by simp,λa ha b hb e=>?_⟩
  ·unfold bI at hxm;obtain⟨p,_,rfl⟩:=fo.1 hxm;exact TD hg p
  ·rw[bH.1 hb]at e;obtain⟨j,hj⟩:=lH ha;exact(Tz hg i x hx j a hj).2.2.1 e
 split at hl
 ·obtain⟨i,x,j,h1,h2,h3,rfl⟩:=ac8 hl;simp only[AP,bH,Gh,not_false_iff,ul,wZ];omega
 ·rw[bH.1 hl];exact TC _
theorem ada{d:bE}(hg:fq (aO d))(hr:∀r∈d.regions,wG (aO d) r.lists):∀l∈kV d,∀ps∈l,ps.Nodup:=by
 intro l hl ps hps;unfold kV at hl;rcases dV.1 hl with hl|hl
 ·obtain⟨f,_,rfl⟩:=fo.1 hl;exact ac9 hg _ ps hps
 ·obtain⟨r,hrm,rfl⟩:=fo.1 hl;obtain⟨q,hq,rfl⟩:=fo.1 hps;exact((hr r hrm).all q hq).nd
end Kd
namespace Kd
open Go Go.Ideal Canon Gph
def uN(k:bS)(p:List Clue)(r:aU):List (Nat×List Int×List Int):=(jw p r (k.lists.getD (gu r).toNat [])).filter λx=>decide (iU r<=x.2.1.length)
def jf(r:aU)(i:Nat)(x:Nat×List Int×List Int):iG:={ko r x.2.1 x.2.2 with rule:=(i:Int),at_:=(x.1:Int)}
def kW(k:bS)(p:List Clue)(r:aU)(i:Nat):List iG:=(uN k p r).map (jf r i)
def jg(k:bS)(p:List Clue):List iG:=k.decl.rules.zipIdx.flatMap λx=>kW k p x.1 x.2
theorem Ab{k:bS}{p:List Clue}(h:iK k p):∀(d i:Nat) a b,p[i]? =some a->p[i+1+d]? =some b->gq a b<0
 |0,i,a,b,ha,hb=>h.sorted i a b ha hb
 |d+1,i,a,b,ha,hb=>by
  have hlt:=(bO.1 hb).1;have hc:p[i+1+d]? =some (p[i+1+d]'(by omega)):=cB _;exact Fv (Ab h d i a _ ha hc) (h.sorted (i+1+d) _ b hc hb)
theorem TE{k:bS}{p:List Clue}(h:iK k p){a b:Clue}(ha:a∈p)(hb:b∈p)(h1:a.aG=b.aG)(h2:a.at_=b.at_):a=b:=by
 obtain⟨i,hi⟩:=lH ha;obtain⟨j,hj⟩:=lH hb;rcases Nat.lt_trichotomy i j with hl|hl|hl
 ·have:=tQ.1 (Ab h (j - (i+1)) i a b hi (by rw[show i+1+(j - (i+1))=j by omega];exact hj));omega
 ·subst hl;rw[hi]at hj;exact Option.some.inj hj
 ·have:=tQ.1 (Ab h (i - (j+1)) j b a hj (by rw[show j+1+(i - (j+1))=i by omega];exact hi));omega
theorem FB{k:bS}{p:List Clue}(h:iK k p){c a:Int}{v:List Int}:oD p c a=some v↔∃g∈p,g.aG=c/\g.at_=a/\g.values=v:=by
 unfold oD;constructor
 ·intro hf;obtain⟨g,hg,rfl⟩:=mI.1 hf;have h1':=List.find?_some hg;have h1:g.aG=c/\g.at_=a:=gY h1';exact⟨g,Oy hg,h1.1,h1.2,rfl⟩
 ·rintro⟨g,hg,h1,h2,rfl⟩;cases hf:p.find? (λg=>decide (g.aG=c/\g.at_=a))with
  |none=>exact absurd (dZ ⟨h1,h2⟩) (Ox.1 hf g hg)
  |some g2=>
   have h3':=List.find?_some hf;have h3:g2.aG=c/\g2.at_=a:=gY h3';rw[TE h hg (Oy hf) (by omega) (by omega)];rfl
theorem TF{p:List Clue}{r:aU}{ls:List (List Int)}{y:Nat×List Int×List Int}:y∈jw p r ls↔ls[y.1]? =some y.2.1/\((r.aG<0/\y.2.2=[])\/(0<=r.aG/\oD p r.aG (y.1:Int)=some y.2.2)):=by
 obtain⟨j,l,v⟩:=y;unfold jw;rw[Gi];constructor
 ·rintro⟨⟨x,i⟩,hx,h⟩;have hx:=xm.1 hx;unfold lu at h;split at h
  ·rename_i hc;cases h;exact⟨hx,.inl ⟨hc,rfl⟩⟩
  ·rename_i hc;obtain⟨w,hw,e⟩:=mI.1 h;cases e;exact⟨hx,.inr ⟨by omega,hw⟩⟩
 ·rintro⟨h1,h2⟩;refine⟨(l,j),xm.2 h1,?_⟩;unfold lu;rcases h2 with⟨hc,e⟩|⟨hc,e⟩
  ·rw[if_pos hc];dsimp only at e;rw[e]
  ·rw[if_neg (by omega)];dsimp only at e⊢;rw[e];rfl
end Kd
namespace Kd
open Go Go.Ideal
end Kd
namespace Kd
open Go Go.Ideal Canon Gph
theorem adb{g:bA}(hg:fq g)(k:Int):(dA g k).length<=2048:=by
 have hl:=hg.len;have hn:=wC g;have hL:=λkf=>Fq hg kf;unfold dA;split
 ·unfold kE;rw[bR,Da];omega
 split
 ·have:=(hL (λs=>(s.2,true))).1;omega
 split
 ·have:=(hL (λs=>(s.1,true))).1;omega
 split
 ·unfold kU;split
  ·have:=(hL (λs=>(s.1+s.2,true))).1;omega
  split
  ·have h1:=hL (λs=>(0,decide (s.1=s.2)));have h2:=hL (λs=>(0,decide (s.1+s.2=g.w - 1)));have:=(IB h1.2 h2.2 (iJ g (λs=>(0,decide (s.1+s.2=g.w - 1)))).length).1;rw[bK]at this;omega
  ·simp
 split
 ·omega
 split
 ·unfold kF;rw[bR,List.length_zipIdx];omega
 split
 ·have:=Fs (bn:=bI g) Fu (bI g).length (bJ _);rw[bK]at this;omega
 ·simp
theorem ade{d:bE}(hg:fq (aO d))(hr:∀r∈d.regions,wG (aO d) r.lists):∀l∈kV d,l.length<=2048:=by
 intro l hl;unfold kV at hl;rcases dV.1 hl with hl|hl
 ·obtain⟨f,_,rfl⟩:=fo.1 hl;exact adb hg _
 ·obtain⟨r,hrm,rfl⟩:=fo.1 hl;have:=(hr r hrm).len;unfold dU;rw[bR];omega
def lC(k:bS)(p:List Clue)(j:Nat):List iG:=(k.decl.rules.take j).zipIdx.flatMap λx=>kW k p x.1 x.2
theorem TG{k:bS}{p:List Clue}:lC k p k.decl.rules.length=jg k p:=by unfold lC jg;rw[bK]
theorem IP{k:bS}{p:List Clue}{j:Nat}{r:aU}(h:k.decl.rules[j]? =some r):lC k p (j+1)=lC k p j++kW k p r j:=by
 have hk:=(bO.1 h).1;unfold lC;rw[bY h,AU,Gl,gM,y7 (by omega)];simp
theorem IQ{p:List Clue}{r:aU}{ls:List (List Int)}:(jw p r ls).length<=ls.length:=by
 unfold jw;exact lF (Wh _ _) (by rw[List.length_zipIdx];exact bJ _)
theorem adf{k:bS}{p:List Clue}{r:aU}{j:Nat}(hl:∀l∈k.lists,l.length<=2048):(kW k p r j).length<=2048:=by
 unfold kW uN;rw[bR];refine lF (AV _ _) (lF IQ ?_);rw[List.getD];cases h:k.lists[(gu r).toNat]? with
 |none=>simp
 |some l=>exact hl l (bG h)
theorem TH{k:bS}{p:List Clue}(hl:∀l∈k.lists,l.length<=2048):∀j,j<=k.decl.rules.length->(lC k p j).length<=2048*j
 |0,_=>cz _
 |j+1,hj=>by
  have:=TH (p:=p) hl j (by omega);rw[IP (cB (by omega)),fA];have:=adf (p:=p) (r:=k.decl.rules[j]) (j:=j) hl;omega
end Kd
namespace Kd
open Canon
theorem IR{a b:Clue}:gq a b=0↔a.aG=b.aG/\a.at_=b.at_:=by
 unfold gq gB;simp only[si];split<;>split at *<;>(try split at *)<;>(try split at *)<;>(try split at *)<;>omega
theorem adg(a b:Clue):tJ a b=if gq a b≠0 then gq a b else iP gB a.values b.values:=by
 rw[aaa,<- acO]
theorem adh{a b:Clue}:tJ a b<0↔gq a b<0\/(gq a b=0/\iP gB a.values b.values<0):=by
 rw[adg];split<;>omega
structure yE(xs rs:List Clue):Prop where
 inc:rs.Pairwise λa b=>gq a b<0
 sub:∀r∈rs,r∈xs
 all:∀x∈xs,∃r∈rs,gq x r=0/\¬iP gB x.values r.values<0
theorem adi{rs:List Clue}(h:rs.Pairwise λa b=>gq a b<0){a b:Clue}(ha:a∈rs)(hb:b∈rs)(he:gq a b=0):a=b:=by
 induction h with
 |nil=>cases ha
 |cons h1 _ ih=>
  rcases dF.1 ha with e1|ha'<;>rcases dF.1 hb with e2|hb'
  ·rw[e1,e2]
  ·have:=h1 b hb';rw[<- e1]at this;omega
  ·have:=h1 a ha';rw[<- e2]at this;rw[IR]at he;rw[tQ]at this;omega
  ·exact ih ha' hb'
theorem yE.mem{xs rs rs':List Clue}(h:yE xs rs)(h':yE xs rs'){r:Clue}(hr:r∈rs):r∈rs':=by
 obtain⟨r2,m2,p2,v2⟩:=h'.all r (h.sub r hr);obtain⟨r1,m1,p1,v1⟩:=h.all r2 (h'.sub r2 m2);have h3:gq r r1=0:=by rw[IR]at *;omega
 have:=adi h.inc hr m1 h3;subst this;have hO:=xR uC;have h4:iP gB r.values r2.values=0:=by
  have:=hO.neg r2.values r.values;have:=hO.neg r.values r2.values;omega
 have h5:=(hO.zero _ _).1 h4;rw[IR]at p2;have:r=r2:=by cases r;cases r2;simp_all
 rw[this];exact m2
theorem yE.self{xs rs:List Clue}(h:yE xs rs):yE rs rs:=⟨h.inc,λ_ h=>h,λx hx=>⟨x,hx,by rw[IR];exact⟨rfl,rfl⟩,by have:=((xR uC).zero x.values x.values).2 rfl;omega⟩⟩
def opn(p:List Clue)(x:Clue):Bool:=match p.getLast? with
 |none=>true
 |some y=>decide (0<gq x y)
theorem MK{p:List Clue}{b x:Clue}:opn (p++[b]) x=decide (0<gq x b):=by
 unfold opn;rw[List.getLast?_append];rfl
theorem IU{a b:Clue}:0<gq a b↔gq b a<0:=by
 rw[tQ];unfold gq gB;simp only[si];split<;>split at *<;>(try split at *)<;>(try split at *)<;>(try split at *)<;>omega
structure Ac(l p:List Clue)(n:Nat):Prop where
 inc:p.Pairwise λa b=>gq a b<0
 sub:∀r∈p,r∈l
 done:∀x∈l,opn p x=false->∃r∈p,gq x r=0/\¬iP gB x.values r.values<0
 cnt:l.countP (opn p)+n<=l.length
theorem TI{α:Type}{p q:α->Bool}:∀{l:List α} {b:α},b∈l->p b=true->q b=false->(∀x,q x=true->p x=true)->l.countP q+1<=l.countP p
 |x::l,b,hb,h1,h2,h3=>by
  rw[List.countP_cons,List.countP_cons];rcases dF.1 hb with rfl|hb
  ·have:=List.countP_mono_left (l:=l) (p:=q) (q:=p) λx _=>h3 x;rw[h1,h2];simp only[if_true];simp;omega
  ·have:=TI hb h1 h2 h3;by_cases e:q x=true
   ·rw[if_pos e,if_pos (h3 x e)];omega
   ·rw[if_neg e];omega
theorem TJ:∀{p:List Clue} {y:Clue},(p.Pairwise λa b=>gq a b<0)->p.getLast? =some y->∀a∈p,a=y\/gq a y<0
 |[],y,_,h,a,ha=>by cases ha
 |[x],y,_,h,a,ha=>by
  cases h;exact .inl (bH.1 ha)
 |x::z::p,y,hp,h,a,ha=>by
  obtain⟨h1,h2⟩:=ru.1 hp;have h':(z::p).getLast? =some y:=by rw[List.getLast?_cons_cons]at h;exact h
  rcases dF.1 ha with rfl|ha
  ·exact .inr (h1 y (List.mem_of_getLast? h'))
  ·exact TJ h2 h' a ha
theorem Ac.step{l p:List Clue}{n:Nat}{b:Clue}(h:Ac l p n)(hb:b∈l)(ho:opn p b=true)(hl:∀x∈l,opn p x=true->¬tJ x b<0):Ac l (p++[b]) (n+1):=by
 have hab:∀y,p.getLast? =some y->gq y b<0:=λy hy=>by
  unfold opn at ho;rw[hy]at ho;exact IU.1 (gY ho)
 refine⟨Gp.2 ⟨h.inc,List.pairwise_singleton ..,λa ha b' hb'=>?_⟩,λr hr=>?_,λx hx hc=>?_,?_⟩
 ·rw[bH.1 hb'];cases e:p.getLast? with
  |none=>rw[List.getLast?_eq_none_iff.1 e]at ha;cases ha
  |some y=>
   have h2:=hab y e;rcases TJ h.inc e a ha with rfl|h1
   ·exact h2
   ·exact Fv h1 h2
 ·rcases dV.1 hr with hr|hr
  ·exact h.sub r hr
  ·rw[bH.1 hr];exact hb
 ·rw[MK]at hc;have hc:=mY hc;cases e:opn p x with
  |true=>
   have h1:=hl x hx e;rw[adh]at h1;refine⟨b,by simp,?_,?_⟩
   ·by_cases h2:gq x b<0
    ·exact absurd (.inl h2) h1
    ·omega
   ·intro h2;by_cases h3:gq x b<0
    ·exact h1 (.inl h3)
    ·exact h1 (.inr ⟨by omega,h2⟩)
  |false=>
   obtain⟨r,m,q⟩:=h.done x hx e;exact⟨r,jP _ m,q⟩
 ·have:=TI (p:=opn p) (q:=opn (p++[b])) hb ho (by rw[MK];exact aT (by rw[IU,tQ];omega)) (λx hx=>by
   rw[MK]at hx;have hx:=gY hx;unfold opn;cases e:p.getLast? with
   |none=>rfl
   |some y=>exact dZ (IU.2 (Fv (hab y e) (IU.1 hx))))
  have:=h.cnt;omega
theorem Ac.stop{l p:List Clue}{n:Nat}(h:Ac l p n)(hn:∀x∈l,opn p x=false):yE l p:=⟨h.inc,h.sub,λx hx=>h.done x hx (hn x hx)⟩
theorem Ac.full{l p:List Clue}(h:Ac l p l.length):yE l p:=h.stop λx hx=>by
 have h1:=h.cnt;have h2:l.countP (opn p)=0:=by omega
 rw[List.countP_eq_zero]at h2;simpa using h2 x hx
end Kd
namespace Kd
open Canon
end Kd
namespace Kd
open Go Go.Ideal Canon Gph
def IV(a b:iG):Prop:=a.rule<b.rule\/(a.rule=b.rule/\a.at_<b.at_)
theorem TK{α:Type}(l:List α)(n:Nat):(l.zipIdx n).Pairwise λa b=>a.2<b.2:=by
 rw[AY];intro i j hi hj hij;rw[List.getElem_zipIdx,List.getElem_zipIdx];show n+i<n+j;omega
theorem adj(p:List Clue)(r:aU)(ls:List (List Int)):(jw p r ls).Pairwise λa b=>a.1<b.1:=by
 unfold jw;rw[List.pairwise_filterMap];refine(TK ls 0).imp λ{a b} hab x hx y hy=>?_;have h:∀(a:List Int×Nat) x,lu p r a=some x->x.1=a.2:=by
  intro a x hx;unfold lu at hx;split at hx
  ·cases hx;rfl
  ·cases h:oD p r.aG (a.2:Int)with
   |none=>rw[h]at hx;cases hx
   |some v=>rw[h]at hx;cases hx;rfl
 rw[h a x hx,h b y hy];exact hab
theorem adk(k:bS)(p:List Clue)(r:aU)(i:Nat):(kW k p r i).Pairwise IV:=by
 unfold kW uN;rw[Dc];refine((adj p r _).filter _).imp λ{a b} h=>?_;right;exact⟨rfl,by show(a.1:Int)<b.1;omega⟩
theorem adl(k:bS)(p:List Clue):(jg k p).Pairwise IV:=by
 unfold jg;rw[List.pairwise_flatMap];refine⟨λa _=>adk k p a.1 a.2,(TK k.decl.rules 0).imp λ{a b} h x hx y hy=>?_⟩;left;unfold kW at hx hy;obtain⟨u,_,rfl⟩:=fo.1 hx;obtain⟨v,_,rfl⟩:=fo.1 hy;show(a.2:Int)<b.2;omega
theorem adm{p:List Clue}{n:Nat}{g:Clue}(hg:p[n]? =some g){x:Clue}(hx:x∈p)(hne:x≠g):x∈p.take n++p.drop (n+1):=by
 have hn:=(bO.1 hg).1;have:p=p.take n++g::p.drop (n+1):=by
  conv=>lhs;rw[<- rq n p]
  rw[oI hn,(bO.1 hg).2]
 rw[this]at hx;rcases dV.1 hx with h|h
 ·exact jP _ h
 ·rcases dF.1 h with h|h
  ·exact absurd h hne
  ·exact mJ _ h
theorem IW{p:List Clue}{n:Nat}{x:Clue}(hx:x∈p.take n++p.drop (n+1)):x∈p:=by
 rcases dV.1 hx with h|h
 ·exact Jy h
 ·exact List.mem_of_mem_drop h
theorem TL(g:Clue):¬gq g g<0:=by rw[tQ];omega
theorem adn{k:bS}{p:List Clue}(h:iK k p){n:Nat}{g:Clue}(hg:p[n]? =some g):g∉p.take n++p.drop (n+1):=by
 intro hx;rcases dV.1 hx with hx|hx
 ·obtain⟨i,hi⟩:=lH hx;rw[pE]at hi;split at hi
  ·exact TL g (Ab h (n - (i+1)) i g g hi (by rw[show i+1+(n - (i+1))=n by omega];exact hg))
  ·cases hi
 ·obtain⟨i,hi⟩:=lH hx;rw[mX]at hi;exact TL g (Ab h i n g g hg hi)
theorem TM{k:bS}{p:List Clue}{n:Nat}{g:Clue}(h:iK k p)(h2:iK k (p.take n++p.drop (n+1)))(hg:p[n]? =some g){c a:Int}(hne:¬(c=g.aG/\a=g.at_)):oD (p.take n++p.drop (n+1)) c a=oD p c a:=by
 apply Option.ext;intro v;rw[FB h2,FB h];constructor
 ·rintro⟨x,hx,e⟩;exact⟨x,IW hx,e⟩
 ·rintro⟨x,hx,e1,e2,e3⟩;exact⟨x,adm hg hx (λe=>hne (by rw[<- e];exact⟨e1.symm,e2.symm⟩)),e1,e2,e3⟩
theorem ado{k:bS}{p:List Clue}{n:Nat}{g:Clue}(h:iK k p)(h2:iK k (p.take n++p.drop (n+1)))(hg:p[n]? =some g):oD (p.take n++p.drop (n+1)) g.aG g.at_=none:=by
 cases hf:oD (p.take n++p.drop (n+1)) g.aG g.at_ with
 |none=>rfl
 |some v=>
  obtain⟨x,hx,e1,e2,_⟩:=(FB h2).1 hf;have:x=g:=TE h (IW hx) (bG hg) e1 e2;subst this;exact absurd hx (adn h hg)
theorem IX{α β:Type}{f g:α->Option β}:∀{l:List α},(∀x∈l,f x=g x)->l.filterMap f=l.filterMap g
 |[],_=>rfl
 |x::l,h=>by rw[JI,JI,h x (cZ ..),IX λy hy=>h y (cO _ hy)]
theorem ML{α β:Type}{f g:α->List β}:∀{l:List α},(∀x∈l,f x=g x)->l.flatMap f=l.flatMap g
 |[],_=>rfl
 |x::l,h=>by rw[y5,y5,h x (cZ ..),ML λy hy=>h y (cO _ hy)]
theorem MM{α:Type}{l:List α}{n:Nat}{x:α}(h:l[n]? =some x):l.zipIdx=(l.take n).zipIdx++(x,n)::(l.drop (n+1)).zipIdx (n+1):=by
 have hn:=(bO.1 h).1;have e:l=l.take n++x::l.drop (n+1):=by
  conv=>lhs;rw[<- rq n l]
  rw[oI hn,(bO.1 h).2]
 conv=>lhs;rw[e]
 rw[AU,List.zipIdx_cons,gM,y7 (by omega),eT]
theorem TN{α:Type}{l:List α}{n:Nat}{y:α×Nat}(h:y∈(l.take n).zipIdx):y.2≠n:=by
 have:=(List.mem_zipIdx h).2.1;rw[gM]at this;omega
theorem TP{α:Type}{l:List α}{n:Nat}{y:α×Nat}(h:y∈l.zipIdx (n+1)):y.2≠n:=by
 have:=(List.mem_zipIdx h).1;omega
theorem adp{k:bS}{p:List Clue}{n:Nat}{g:Clue}(h:iK k p)(h2:iK k (p.take n++p.drop (n+1)))(hg:p[n]? =some g){r:aU}{j:Nat}{ls:List (List Int)}(hrc:r.aG=g.aG)(hc0:0<=g.aG)(hl0:iU r=0)(hls:k.lists[(gu r).toNat]? =some ls)(ha0:0<=g.at_)(ha1:g.at_<ls.length):
 ∃A own B,kW k p r j=A++own::B/\kW k (p.take n++p.drop (n+1)) r j=A++B/\own.rule=(j:Int)/\own.at_=g.at_:=by
 obtain⟨a,ha⟩:=sG ha0;have hla:ls[a]? =some (ls[a]'(by omega)):=cB _;generalize ls[a]'(by omega)=l at hla;have hf0:∀X:List (Nat×List Int×List Int),X.filter (λx=>decide (iU r<=x.2.1.length))=X:=λX=>List.filter_eq_self.2 λx _=>by rw[hl0];exact dZ (cz _)
 have hgd:k.lists.getD (gu r).toNat []=ls:=uI hls;have hlr:∀(q:List Clue) (x:List Int×Nat),lu q r x=(oD q g.aG (x.2:Int)).map λv=>(x.2,x.1,v):=λq x=>by unfold lu;rw[if_neg (by omega),hrc]
 have hsome:lu p r (l,a)=some (a,l,g.values):=by
  rw[hlr,(FB h).2 ⟨g,bG hg,rfl,ha,rfl⟩];rfl
 have hnone:lu (p.take n++p.drop (n+1)) r (l,a)=none:=by
  have:=ado h h2 hg;rw[ha]at this;rw[hlr];show Option.map _ (oD _ g.aG (a:Int))=none;rw[this];rfl
 have hsame:∀x:List Int×Nat,x.2≠a->lu (p.take n++p.drop (n+1)) r x=lu p r x:=λx hx=>by
  rw[hlr,hlr,TM h h2 hg (by rintro⟨_,e⟩;omega)]
 refine⟨((ls.take a).zipIdx.filterMap (lu p r)).map (jf r j),jf r j (a,l,g.values),(((ls.drop (a+1)).zipIdx (a+1)).filterMap (lu p r)).map (jf r j),?_,?_,rfl,by show(a:Int)=_;omega⟩
 ·unfold kW uN;rw[hf0,hgd];unfold jw;rw[MM hla,Gn,JI,hsome,dW,gQ]
 ·unfold kW uN;rw[hf0,hgd];unfold jw;rw[MM hla,Gn,JI,hnone,IX (l:=(ls.take a).zipIdx) (λx hx=>hsame x (TN hx)),IX (l:=(ls.drop (a+1)).zipIdx (a+1)) (λx hx=>hsame x (TP hx)),dW]
theorem alone{k:bS}{p:List Clue}{n:Nat}{g:Clue}(h:iK k p)(h2:iK k (p.take n++p.drop (n+1)))(hg:p[n]? =some g){r:aU}{j:Nat}{ls:List (List Int)}(hr:k.decl.rules[j]? =some r)(hrc:r.aG=g.aG)(Cj:∀(i:Nat) r',k.decl.rules[i]? =some r'->r'.aG=g.aG->i=j)(hc0:0<=g.aG)(hl0:iU r=0)(hls:k.lists[(gu r).toNat]? =some ls)(ha0:0<=g.at_)(ha1:g.at_<ls.length):
 ∃A own B,jg k p=A++own::B/\jg k (p.take n++p.drop (n+1))=A++B/\own.rule=(j:Int)/\own.at_=g.at_:=by
 obtain⟨A,own,B,e1,e2,e3,e4⟩:=adp (j:=j) h h2 hg hrc hc0 hl0 hls ha0 ha1;have hsame:∀x:aU×Nat,x∈k.decl.rules.zipIdx->x.2≠j->kW k (p.take n++p.drop (n+1)) x.1 x.2=kW k p x.1 x.2:=λx hx hne=>by
  have hx:=xm.1 (show(x.1,x.2)∈_ from hx);have hcl:x.1.aG≠g.aG:=λe=>hne (Cj x.2 x.1 hx e);unfold kW uN jw;rw[IX (g:=lu p x.1) λy _=>?_];unfold lu;rw[TM h h2 hg (λe=>hcl e.1)]
 have hz:=MM hr;have m1:∀x,x∈(k.decl.rules.take j).zipIdx->x∈k.decl.rules.zipIdx:=λx hx=>by rw[hz];exact jP _ hx
 have m2:∀x,x∈(k.decl.rules.drop (j+1)).zipIdx (j+1)->x∈k.decl.rules.zipIdx:=λx hx=>by rw[hz];exact mJ _ (cO _ hx)
 refine⟨(k.decl.rules.take j).zipIdx.flatMap (λx=>kW k p x.1 x.2)++A,own,B++((k.decl.rules.drop (j+1)).zipIdx (j+1)).flatMap (λx=>kW k p x.1 x.2),?_,?_,e3,e4⟩
 ·unfold jg;rw[hz,Gl,y5,e1];simp
 ·unfold jg;rw[hz,Gl,y5,e2,ML (l:=(k.decl.rules.take j).zipIdx) (λx hx=>hsame x (m1 x hx) (TN hx)),ML (l:=(k.decl.rules.drop (j+1)).zipIdx (j+1)) (λx hx=>hsame x (m2 x hx) (TP hx))];simp
theorem TQ{A B:List iG}{own:iG}(h:(A++own::B).Pairwise IV)(n:Nat)(hn:∀i,i<n->(A++B)[i]? =(A++own::B)[i]?)(hle:n<=(A++B).length)(hstop:n=(A++B).length\/(A++B)[n]?≠(A++own::B)[n]?):n=A.length:=by
 have hlo:A.length<=n:=by
  apply Classical.byContradiction;intro hc;rcases hstop with h|h
  ·rw[fA]at h;omega
  ·exact h (by rw[kJ (by omega),kJ (by omega)])
 apply Classical.byContradiction;intro hc;have h1:=hn A.length (by omega);rw[lX (bJ _),lX (bJ _),xe]at h1;rw[Gp]at h;have h2:=ru.1 h.2.1;cases B with
 |nil=>rw[gy]at hle;omega
 |cons b B=>
  have:b=own:=by simpa using h1
  have:=h2.1 b (by simp);unfold IV at this
  subst_vars
  omega
theorem adq{g:bA}(kf:Int×Int->Int×Bool):(iJ g kf).length<=g.cells.length:=by
 have h:=IA kf _ (bB g) rfl;rw[oC]at h;unfold iJ;rw[bR];have:(di ((iZ kf (bB g)).map (·.1))).length=((iZ kf (bB g)).map (·.1)).length:=(xk _ _).length_eq;rw[this,bR];omega
theorem adr{g:bA}(hg:fq g)(hs:g.cells.length<=16)(k:Int):(dA g k).length<=96:=by
 have hn:=wC g;have hL:=λkf=>adq (g:=g) kf;have hM:=λkf=>Fq hg kf;unfold dA;split
 ·unfold kE;rw[bR,Da];omega
 split
 ·have:=hL (λs=>(s.2,true));omega
 split
 ·have:=hL (λs=>(s.1,true));omega
 split
 ·unfold kU;split
  ·have:=hL (λs=>(s.1+s.2,true));omega
  split
  ·have h1:=hL (λs=>(0,decide (s.1=s.2)));have h2:=hL (λs=>(0,decide (s.1+s.2=g.w - 1)));have:=(IB (hM (λs=>(0,decide (s.1=s.2)))).2 (hM (λs=>(0,decide (s.1+s.2=g.w - 1)))).2 (iJ g (λs=>(0,decide (s.1+s.2=g.w - 1)))).length).1;rw[bK]at this;omega
  ·simp
 split
 ·omega
 split
 ·unfold kF;rw[bR,List.length_zipIdx];omega
 split
 ·have:=Fs (bn:=bI g) Fu (bI g).length (bJ _);rw[bK]at this;omega
 ·simp
theorem ads{d:bE}(hg:fq (aO d))(hs:(aO d).cells.length<=16)(hr:∀r∈d.regions,wG (aO d) r.lists):∀l∈kV d,l.length<=96:=by
 intro l hl;unfold kV at hl;rcases dV.1 hl with hl|hl
 ·obtain⟨f,_,rfl⟩:=fo.1 hl;exact adr hg hs _
 ·obtain⟨r,hrm,rfl⟩:=fo.1 hl;have:=(hr r hrm).len;unfold dU;rw[bR];omega
theorem TR{k:bS}{p:List Clue}(hl:∀l∈k.lists,l.length<=96):∀j,j<=k.decl.rules.length->(lC k p j).length<=96*j
 |0,_=>cz _
 |j+1,hj=>by
  have:=TR (p:=p) hl j (by omega);rw[IP (cB (by omega)),fA];have:(kW k p k.decl.rules[j] j).length<=96:=by
   unfold kW uN;rw[bR];refine lF (AV _ _) (lF IQ ?_);rw[List.getD];cases h:k.lists[(gu k.decl.rules[j]).toNat]? with
   |none=>simp
   |some l=>exact hl l (bG h)
  omega
theorem adt{k:bS}{p:List Clue}(hl:∀l∈k.lists,l.length<=96)(hr:k.decl.rules.length<=16):(jg k p).length<=4096:=by
 have:=TR (p:=p) hl _ (bJ _);rw[TG]at this;omega
end Kd
namespace Kd
open Go Go.Ideal
theorem MN:∀{a b:List Int},a.Pairwise (·<·)->b.Pairwise (·<·)->(∀x,x∈a↔x∈b)->a=b
 |[],[],_,_,_=>rfl
 |[],y::b,_,_,h=>by have:=(h y).2 (cZ ..);cases this
 |x::a,[],_,_,h=>by have:=(h x).1 (cZ ..);cases this
 |x::a,y::b,ha,hb,h=>by
  have hxy:x=y:=by
   rcases dF.1 ((h x).1 (cZ ..))with e|hx
   ·exact e
   rcases dF.1 ((h y).2 (cZ ..))with e|hy
   ·exact e.symm
   have:=(ru.1 ha).1 y hy;have:=(ru.1 hb).1 x hx;omega
  subst hxy;rw[MN (ru.1 ha).2 (ru.1 hb).2 λz=>?_];constructor
  ·intro hz;have:=(ru.1 ha).1 z hz;exact(dF.1 ((h z).1 (cO _ hz))).resolve_left (by omega)
  ·intro hz;have:=(ru.1 hb).1 z hz;exact(dF.1 ((h z).2 (cO _ hz))).resolve_left (by omega)
theorem adu{n:Nat}{x:Int}:x∈upTo' n↔0<=x/\x<(n:Int):=by
 unfold upTo';rw[fo];constructor
 ·rintro⟨i,hi,rfl⟩;have:=uj.1 hi;omega
 ·intro h;exact⟨x.toNat,uj.2 (by omega),by omega⟩
theorem adv(n:Nat):(upTo' n).Pairwise (·<·):=by
 unfold upTo';rw[Dc];exact List.Pairwise.imp (λh=>by omega) List.pairwise_lt_range
def dR(n:Nat)(p:Int->Bool):List Int:=(upTo' n).filter p
theorem adw{n:Nat}{p:Int->Bool}{x:Int}:x∈dR n p↔(0<=x/\x<(n:Int))/\p x=true:=by
 unfold dR;rw[um,adu]
theorem TS(n:Nat)(p:Int->Bool):(dR n p).Pairwise (·<·):=List.Pairwise.filter _ (adv n)
theorem Ad(k:Nat)(p:Int->Bool):dR (k+1) p=dR k p++if p (k:Int)then[(k:Int)]else[]:=by
 unfold dR;rw[uM,AQ];congr 1;rw[JB];split<;>simp
theorem Ae(n:Nat)(p:Int->Bool):(dR n p).length<=n:=by
 unfold dR;refine lF (AV _ _) ?_;rw[r9];exact bJ _
theorem IY{l:List Int}(hi:l.Pairwise (·<·)){n:Nat}{p:Int->Bool}(h:∀x,x∈l↔(0<=x/\x<(n:Int))/\p x=true):l=dR n p:=
 MN hi (TS n p) λx=>(h x).trans adw.symm
theorem adx(n:Nat)(holes:List Int):gJ n holes=dR n λi=>!decide (i∈holes):=rfl
theorem TT{n:Nat}{holes:List Int}(hi:holes.Pairwise (·<·))(hm:∀x∈holes,0<=x/\x<(n:Int)):dR n (λi=>decide (i∈holes))=holes:=
 (IY hi λx=>⟨λh=>⟨hm x h,dZ h⟩,λh=>gY h.2⟩).symm
theorem ady{n:Nat}{holes:List Int}(hi:holes.Pairwise (·<·))(hm:∀x∈holes,0<=x/\x<(n:Int)):(gJ n holes).length+holes.length=n:=by
 have h1:(dR n λi=>decide (i∈holes)).length=holes.length:=by rw[TT hi hm]
 have h2:=List.length_eq_countP_add_countP (λi:Int=>decide (i∈holes)) (l:=upTo' n);rw[r9,List.countP_eq_length_filter,List.countP_eq_length_filter]at h2;have h3:gJ n holes=List.filter (λa=>decide ¬decide (a∈holes)=true) (upTo' n):=by
  rw[adx];unfold dR;congr 1;funext i
  by_cases h:i∈holes<;>simp[h]
 rw[h3];unfold dR at h1;omega
structure adz(s w h:Int)(holes:List Int):Prop where
 sh:s=1\/s=2
 wi:1<=w/\w<=16
 he:1<=h/\h<=16
 inc:holes.Pairwise (·<·)
 mem:∀x∈holes,0<=x/\x<w*h
 ne:mi w h holes≠[]
theorem uO{s w h:Int}{holes:List Int}:adz s w h holes↔nT s w h holes:=by
 have key:(1<=w/\w<=16)->(1<=h/\h<=16)->holes.Pairwise (·<·)->(∀x∈holes,0<=x/\x<w*h)->(mi w h holes≠[]↔(holes.length:Int)<w*h):=by
  intro hw hh hi hm;have hb:=wy hw hh;obtain⟨m,hmm⟩:=sG (show 0<=w*h by omega);rw[hmm]at hm⊢;unfold mi;rw[hmm,CY];have:=ady hi hm;rw[<- yX];omega
 exact⟨λq=>⟨q.sh,q.wi,q.he,(key q.wi q.he q.inc q.mem).1 q.ne,q.inc,q.mem⟩,λq=>⟨q.sh,q.wi,q.he,q.inc,q.mem,(key q.wi q.he q.inc q.mem).2 q.len⟩⟩
def iL(g:bA)(c:Int):Int×Int:=((g.cells[c.toNat]?).map (mW g)).getD (0,0)
theorem Ck{g:bA}{k:Nat}{x:Int}(h:g.cells[k]? =some x):iL g (k:Int)=mW g x:=by
 unfold iL;rw[CY,h];rfl
theorem FC{g:bA}{q:Int×(Int×Int)}:q∈bB g↔(0<=q.1/\q.1<(g.cells.length:Int))/\q.2=iL g q.1:=by
 constructor
 ·intro h;refine⟨II q h,?_⟩;obtain⟨k,hk⟩:=uk.1 h;have h1:=wB hk;have hkl:=(bO.1 hk).1;rw[oC]at hkl;have hx:g.cells[k]? =some g.cells[k]:=cB hkl;rw[wz hx]at hk;have hk:=Option.some.inj hk;rw[h1,Ck hx,<- hk]
 ·rintro⟨⟨h1,h2⟩,h3⟩;have hkl:q.1.toNat<g.cells.length:=by omega
  have hx:g.cells[q.1.toNat]? =some g.cells[q.1.toNat]:=cB hkl;have h4:=wz hx;rw[show((q.1.toNat:Nat):Int)=q.1 by omega]at h4;have h5:iL g q.1=mW g g.cells[q.1.toNat]:=by
   have:=Ck hx
   rwa [show((q.1.toNat:Nat):Int)=q.1 by omega]at this
  rw[<- h5,<- h3]at h4;exact bG h4
def wH(sh:Int)(s t:Int×Int):Bool:=
 if sh=1 then(decide (t.2 - s.2=0)&&(decide (t.1 - s.1=1)||decide (t.1 - s.1= -1)))||(decide (t.1 - s.1=0)&&(decide (t.2 - s.2=1)||decide (t.2 - s.2= -1)))
 else(decide (t.1 - s.1=1)&&decide (t.2 - s.2=0))||(decide (t.1 - s.1= -1)&&decide (t.2 - s.2=0))||(decide (t.1 - s.1=0)&&decide (t.2 - s.2=1))||(decide (t.1 - s.1=0)&&decide (t.2 - s.2= -1))||(decide (t.1 - s.1=1)&&decide (t.2 - s.2= -1))||(decide (t.1 - s.1= -1)&&decide (t.2 - s.2=1))
theorem adA{g:bA}{s t:Int×Int}:wH g.shape s t=true↔∃d∈eB.take (dQ g),t=(s.1+d.1,s.2+d.2):=by
 obtain⟨s1,s2⟩:=s;obtain⟨t1,t2⟩:=t;unfold wH dQ;by_cases h:g.shape=1
 ·rw[if_pos h,if_pos h];simp[eB];omega
 ·rw[if_neg h,if_neg h];simp[eB];omega
theorem adB{g:bA}(hg:fq g){p:Int×(Int×Int)}:lq g p=dR g.cells.length λb=>wH g.shape p.2 (iL g b):=by
 refine IY (MJ hg p) λc=>?_;rw[MI hg,adA];constructor
 ·rintro⟨d,hd,q,hq,h1,rfl⟩;obtain⟨h2,h3⟩:=FC.1 hq;exact⟨h2,d,hd,h3▸h1⟩
 ·rintro⟨h2,d,hd,h1⟩;exact⟨d,hd,(c,iL g c),FC.2 ⟨h2,rfl⟩,h1,rfl⟩
theorem TU{g:bA}(hg:fq g){k:Nat}(hk:k<g.cells.length):(bI g)[k]? =some (dR g.cells.length λb=>wH g.shape (iL g k) (iL g b)):=by
 unfold bI;have hx:g.cells[k]? =some g.cells[k]:=cB hk;rw[eZ,wz hx,jX,adB hg,Ck hx]
theorem Fg{α β:Type}[DecidableEq α](b:α)(v:β):∀m:List (α×β),(upd b v m).map (·.1)=if b∈m.map (·.1)then m.map (·.1)else m.map (·.1)++[b]
 |[]=>by
  rw[if_neg (by simp)];rfl
 |(a,u)::m=>by
  unfold upd;by_cases e:b=a
  ·rw[if_pos e,if_pos (by rw[e];simp),e];rfl
  ·rw[if_neg e,gQ,gQ,Fg b v m];by_cases h:b∈m.map (·.1)
   ·rw[if_pos h,if_pos (cO _ h)]
   ·rw[if_neg h,if_neg (by rw[dF,not_or];exact⟨e,h⟩)];rfl
def oF(kf:Int×Int->Int×Bool)(ps:List (Int×(Int×Int)))(n:Int):List Int:=(ps.filter λp=>(kf p.2).2&&decide ((kf p.2).1=n)).map (·.1)
theorem MO(kf:Int×Int->Int×Bool)(ps:List (Int×(Int×Int)))(p:Int×(Int×Int))(n:Int):oF kf (ps++[p]) n=oF kf ps n++if((kf p.2).2&&decide ((kf p.2).1=n))=true then[p.1]else[]:=by
 unfold oF;rw[AQ,dW];congr 1;rw[JB];split<;>simp
theorem adC(kf:Int×Int->Int×Bool)(m:Nat):∀ps:List (Int×(Int×Int)),ps.length=m->((iZ kf ps).map (·.1)).Nodup/\∀n,(n∈(iZ kf ps).map (·.1)↔oF kf ps n≠[])/\(dJ n (iZ kf ps)).getD []=oF kf ps n:=by
 induction m with
 |zero=>
  intro ps h;rw[ji.1 h];exact⟨ul,λn=>⟨by simp[iZ,oF],rfl⟩⟩
 |succ m ih=>
  intro ps h;obtain⟨qs,p,rfl⟩:∃qs p,ps=qs++[p]:=⟨ps.dropLast,ps.getLast (by intro e;rw[e]at h;cases h),(AX _).symm⟩
  obtain⟨h1,h2⟩:=ih qs (by simpa using h);rw[Fp];unfold uK;cases hb:(kf p.2).2 with
  |false=>
   refine⟨h1,λn=>?_⟩;rw[MO,hb,if_neg (by simp),gy];exact h2 n
  |true=>
   dsimp only[cond];rw[Fg];refine⟨?_,λn=>⟨?_,?_⟩⟩
   ·split
    ·exact h1
    ·rename_i hn;rw[iN];exact⟨h1,by simp,λa ha b hb'=>by rw[bH.1 hb'];exact λe=>hn (e▸ha)⟩
   ·rw[MO,hb];by_cases e:(kf p.2).1=n
    ·have hc:(true&&decide ((kf p.2).1=n))=true:=by simp[e]
     rw[if_pos hc];split
     ·rename_i hn;rw[e]at hn;exact⟨λ_=>by simp,λ_=>hn⟩
     ·rw[e];exact⟨λ_=>by simp,λ_=>mJ _ (bH.2 rfl)⟩
    ·have hc:¬(true&&decide ((kf p.2).1=n))=true:=by simp[e]
     rw[if_neg hc,gy];split
     ·exact(h2 n).1
     ·rw[dV,(h2 n).1];simp only[bH];exact⟨λh=>h.resolve_right (λx=>e x.symm),.inl⟩
   ·rw[wD,MO,hb];by_cases e:(kf p.2).1=n
    ·rw[if_pos e.symm,if_pos (by simp[e]),uh,(h2 _).2,e]
    ·rw[if_neg (λx=>e x.symm),if_neg (by simp[e]),gy];exact(h2 n).2
theorem TV{g:bA}(kf:Int×Int->Int×Bool)(n:Int):oF kf (bB g) n=dR g.cells.length λc=>(kf (iL g c)).2&&decide ((kf (iL g c)).1=n):=by
 refine IY ?_ λc=>?_
 ·unfold oF;rw[Dc];refine List.Pairwise.filter _ ?_;rw[AY];intro i j hi hj hij;have h1:=wB (cB hi);have h2:=wB (cB hj);rw[h1,h2];omega
 ·unfold oF;rw[fo];constructor
  ·rintro⟨p,hp,rfl⟩;obtain⟨h1,h2⟩:=um.1 hp;obtain⟨h3,h4⟩:=FC.1 h1;rw[<- h4];exact⟨h3,h2⟩
  ·rintro⟨h1,h2⟩;exact⟨(c,iL g c),um.2 ⟨FC.2 ⟨h1,rfl⟩,h2⟩,rfl⟩
def uP(lo:Int)(k:Nat):List Int:=(List.range k).map λi:Nat=>lo+(i:Int)
theorem adD(lo:Int)(k:Nat):uP lo (k+1)=uP lo k++[lo+(k:Int)]:=by
 unfold uP;rw[JG,dW];rfl
theorem adE{lo:Int}{k:Nat}{x:Int}:x∈uP lo k↔lo<=x/\x<lo+(k:Int):=by
 unfold uP;rw[fo];constructor
 ·rintro⟨i,hi,rfl⟩;have:=uj.1 hi;omega
 ·intro h;exact⟨(x - lo).toNat,uj.2 (by omega),by omega⟩
theorem adF(lo:Int)(k:Nat):(uP lo k).Pairwise (·<·):=by
 unfold uP;rw[Dc];exact List.Pairwise.imp (λh=>by omega) List.pairwise_lt_range
def yF(L:Int->List Int)(lo:Int)(k:Nat):List (List Int):=((uP lo k).map L).filter λl=>!l.isEmpty
theorem TW(L:Int->List Int)(lo:Int)(k:Nat):yF L lo (k+1)=yF L lo k++if L (lo+(k:Int))=[]then[]else[L (lo+(k:Int))]:=by
 unfold yF;rw[adD,dW,AQ];congr 1;rw[oK,JB];cases h:L (lo+(k:Int))with
 |nil=>rfl
 |cons x l=>simp
theorem TY{g:bA}(kf:Int×Int->Int×Bool){lo:Int}{k:Nat}(hk:∀p∈bB g,(kf p.2).2=true->lo<=(kf p.2).1/\(kf p.2).1<lo+(k:Int)):iJ g kf=yF (oF kf (bB g)) lo k:=by
 obtain⟨h1,h2⟩:=adC kf _ (bB g) rfl;have h3:di ((iZ kf (bB g)).map (·.1))=(uP lo k).filter λn=>!(oF kf (bB g) n).isEmpty:=by
  refine MN (IM h1) (List.Pairwise.filter _ (adF lo k)) λn=>?_;rw[uL,(h2 n).1,um,adE];have hne:((!(oF kf (bB g) n).isEmpty)=true)↔oF kf (bB g) n≠[]:=by
   cases oF kf (bB g) n<;>simp
  rw[hne];refine⟨λh=>⟨?_,h⟩,λh=>h.2⟩;obtain⟨c,hc⟩:=List.exists_mem_of_ne_nil _ h;unfold oF at hc;obtain⟨p,hp,_⟩:=fo.1 hc;obtain⟨hp1,hp2⟩:=um.1 hp;simp only[gL,wW]at hp2;rw[<- hp2.2];exact hk p hp1 hp2.1
 unfold iJ yF;rw[h3,List.filter_map];refine Gg λn _=>?_;exact(h2 n).2
theorem TZ{g:bA}(c:Int×Int->Bool):iJ g (λs=>(0,c s))=if dR g.cells.length (λb=>c (iL g b))=[]then[]else[dR g.cells.length λb=>c (iL g b)]:=by
 rw[TY (lo:=0) (k:=1) (λs=>(0,c s)) (λp _ _=>⟨Int.le_refl 0,by omega⟩)];rw[show(1:Nat)=0+1 from rfl,TW];have e:oF (λs=>(0,c s)) (bB g) (0+((0:Nat):Int))=dR g.cells.length λb=>c (iL g b):=by
  rw[TV];congr 1;funext b
  simp
 rw[e];rfl
theorem adG{g:bA}(hg:fq g){k:Nat}{l:List Int}(hl:(bI g)[k]? =some l):di (l++[(k:Int)])=dR g.cells.length λb=>decide (b=(k:Int))||decide (b∈l):=by
 have hk:k<g.cells.length:=by have:=(bO.1 hl).1;rwa [wC]at this
 have hls:∀c∈l,(0<=c/\c<(g.cells.length:Int)):=(IJ l (bG hl)).2;have hlt:l.Pairwise (·<·):=by
  have:=TU hg hk;rw[hl]at this;rw[Option.some.inj this];exact TS _ _
 have hkl:(k:Int)∉l:=λh=>by
  obtain⟨j,hj⟩:=uk.1 h;exact(Tz hg k l hl j k hj).2.2.1 rfl
 refine IY (IM ?_) λc=>?_
 ·rw[iN];exact⟨hlt.imp (λh=>by omega),by simp,λa ha b hb=>by rw[bH.1 hb];exact λe=>hkl (e▸ha)⟩
 ·rw[uL,dV,bH];simp only[uW,wW];constructor
  ·rintro(h|rfl)
   ·exact⟨hls c h,.inr h⟩
   ·exact⟨by omega,.inl rfl⟩
  ·rintro⟨_,h|h⟩
   ·exact .inr h
   ·exact .inl h
