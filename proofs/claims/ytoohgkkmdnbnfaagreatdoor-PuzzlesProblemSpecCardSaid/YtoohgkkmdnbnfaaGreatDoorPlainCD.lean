/-
  Puzzles, in plain lists: clues that are right.
-/
import Derived.Test.YtoohgkkmdnbnfaaGreatDoorPlainBD
import Derived.Test.YtoohgkkmdnbnfaaGreatDoorPlainAD
set_option linter.all false
namespace Kd
open Go Go.Ideal Canon
def iV:Enc Clue:=⟨3,Value,λg v=>[.int .i64 g.aH,.int .i64 g.at_,v],λg v=>[ah aa v g.values],λ_ _=>rfl⟩
abbrev zN(g:Clue)(v:Value):Value:=.agg ⟨[.int .i64 g.aH,.int .i64 g.at_,v]⟩
def rT:List Int->Int
 |[]=>0
 |a::l=>if a≠0 then a else rT l
def gu(a b:Clue):Int:=rT [fU a.aH b.aH,fU a.at_ b.at_]
theorem Ta(a b:Clue):gu a b=iL fU [a.aH,a.at_] [b.aH,b.at_]:=by
 unfold gu;simp only[rT,iL]
theorem uH{a b:Clue}:gu a b<0↔a.aH<b.aH\/(a.aH=b.aH/\a.at_<b.at_):=by
 unfold gu fU;simp only[rT];split<;>split at *<;>(try split at *)<;>(try split at *)<;>(try split at *)<;>omega
theorem Ej{a b c:Clue}(h1:gu a b<0)(h2:gu b c<0):gu a c<0:=by
 rw[uH]at *;omega
def rU(k:bS)(g:Clue):Prop:=∃(c:iR) (l:List (List Int)),0<=g.aH/\k.decl.aJ[g.aH.toNat]? =some c/\k.lists[c.family.toNat]? =some l/\0<=g.at_/\g.at_<l.length/\
 ((c.type=1/\g.values.length=1/\∀x∈g.values,0<=x/\x<=(k.decl.symbols.length:Int) - 1)\/(c.type=2/\g.values.length=1/\∀x∈g.values,c.lo<=x/\x<=c.hi)\/
   (c.type≠1/\c.type≠2/\g.values.length<=8/\∀x∈g.values,1<=x/\x<=256))
structure jR(k:bS)(p:List Clue):Prop where
 len:p.length<=512
 right:∀g∈p,rU k g
 sorted:∀(i:Nat) a b,p[i]? =some a->p[i+1]? =some b->gu a b<0
def Em(k:bS):Prop:=∀c∈k.decl.aJ,0<=c.family/\c.family<k.lists.length
end Kd
namespace Kd
open Go Go.Ideal Canon
def Tc(k:bS)(i:Int):Int:=match k.decl.aJ[i.toNat]? with|some c=>c.family|none=>0
def nW(k:bS)(g:Clue):List Int:=(k.lists.getD (Tc k g.aH).toNat []).getD g.at_.toNat []
def Io(k:bS)(p:List Clue)(r:aQ):List (List Int×List Int):=
 if r.aH<0 then(k.lists.getD r.family.toNat []).map λl=>(l,[r.n])else(p.filter λg=>decide (g.aH=r.aH)).map λg=>(nW k g,g.values)
theorem uC{α:Type}{l:List α}{n:Nat}{x d:α}(h:l[n]? =some x):l.getD n d=x:=by simp[List.getD,h]
theorem rU.cells{k:bS}{g:Clue}(h:rU k g):∃(c:iR) (l:List (List Int)) (ps:List Int),k.decl.aJ[g.aH.toNat]? =some c/\k.lists[c.family.toNat]? =some l/\l[g.at_.toNat]? =some ps/\0<=g.aH/\0<=g.at_/\g.at_<l.length/\nW k g=ps:=by
 obtain⟨c,l,h1,h2,h3,h4,h5,_⟩:=h;have h6:l[g.at_.toNat]? =some (l[g.at_.toNat]'(by omega)):=cO _;refine⟨c,l,_,h2,h3,h6,h1,h4,h5,?_⟩;unfold nW Tc;rw[h2];dsimp only;rw[uC h3,uC h6]
end Kd
namespace Kd
open Go Go.Ideal Canon
end Kd
namespace Kd
open Go Go.Ideal
def zO(n:Nat)(l:List Int):Prop:=l.length<=4096/\∀c∈l,0<=c/\c<(n:Int)
theorem Ip{g:bC}:∀p∈bE g,0<=p.1/\p.1<(g.cells.length:Int):=by
 intro p hp;obtain⟨k,hk⟩:=tY.1 hp;have hkl:=(bP.1 hk).1;rw[oN]at hkl;have:=wo hk;omega
theorem acg(kf:Int×Int->Int×Bool)(n:Nat):∀ps:List (Int×(Int×Int)),ps.length=n->∀a,∀c∈(dG a (jo kf ps)).getD [],∃p∈ps,p.1=c:=by
 induction n with
 |zero=>
  intro ps h a c hc;rw[jM.1 h]at hc;have hc:c∈([]:List Int):=hc;cases hc
 |succ n ih=>
  intro ps h a c hc;obtain⟨qs,p,rfl⟩:∃qs p,ps=qs++[p]:=⟨ps.dropLast,ps.getLast (by intro e;rw[e]at h;cases h),(Av _).symm⟩
  have hq:qs.length=n:=by simpa using h
  have hih:∀a,∀c∈(dG a (jo kf qs)).getD [],∃p'∈qs++[p],p'.1=c:=λa c hc=>by
   obtain⟨q,h1,h2⟩:=ih qs hq a c hc;exact⟨q,kF _ h1,h2⟩
  rw[Ei]at hc;unfold uE at hc;cases hb:(kf p.2).2 with
  |false=>
   rw[hb]at hc;exact hih a c hc
  |true=>
   rw[hb]at hc;have hc:c∈(dG a (upd (kf p.2).1 ((dG (kf p.2).1 (jo kf qs)).getD []++[p.1]) (jo kf qs))).getD []:=hc;rw[ww]at hc;by_cases e:a=(kf p.2).1
   ·rw[if_pos e,tT]at hc;rcases dZ.1 hc with hc|hc
    ·exact hih _ c hc
    ·exact⟨p,by simp,(bI.1 hc).symm⟩
   ·rw[if_neg e]at hc;exact hih a c hc
theorem En{g:bC}(hg:fw g)(kf:Int×Int->Int×Bool):∀l∈iU g kf,zO g.cells.length l:=by
 intro l hl;have hlen:=(Ij hg kf).2 l hl;refine⟨by omega,λc hc=>?_⟩;unfold iU at hl;obtain⟨n,_,rfl⟩:=fE.1 hl;obtain⟨p,hp,rfl⟩:=acg kf _ (bE g) rfl n c hc;exact Ip p hp
theorem Mr{a b:List (List Int)}{l:List Int}(h:l∈lF a b):l∈a\/l∈b:=by
 unfold lF at h;induction b generalizing a with
 |nil=>exact .inl h
 |cons x b ih=>
  rw[tN]at h;rcases ih h with h|h
  ·unfold wy at h;split at h
   ·exact .inl h
   ·rcases dZ.1 h with h|h
    ·exact .inl h
    ·exact .inr (by rw[bI.1 h];simp)
  ·exact .inr (dJ _ h)
theorem Td{o:Option Value}{n:Int}(h:numOf o=some n):o=some (.int .i64 n):=by
 unfold numOf at h;split at h
 ·cases h;rfl
 ·cases h
theorem ach{g:bC}{p:Int×(Int×Int)}:zO g.cells.length (kV g p):=by
 unfold kV;refine⟨?_,λc hc=>?_⟩
 ·have h1:(dn (gq (eX (bE g)) p.2 (dY.take (dQ g)))).length=(gq (eX (bE g)) p.2 (dY.take (dQ g))).length:=(yQ _ _).length_eq;have h2:=Ig (eX (bE g)) p.2 (dY.take (dQ g));have h3:=zM g;rw[gW]at h2;omega
 ·rw[uF]at hc;unfold gq at hc;obtain⟨d,_,hd⟩:=Ff.1 hc;obtain⟨c',h1,q,hq,h2⟩:=SF _ _ (Td hd);injection h1 with _ h1;rw[h1,<- h2];exact Ip q hq
theorem Iq{g:bC}:∀l∈bJ g,zO g.cells.length l:=by
 intro l hl;obtain⟨p,_,rfl⟩:=fE.1 hl;exact ach
theorem aci(l:List Int):(dn l).length=l.length:=(yQ l _).length_eq
theorem acj{g:bC}(hg:fw g)(k:Int):∀l∈dA g k,zO g.cells.length l:=by
 have hlen:=hg.len;have hnl:=xZ g;have hnm:=Il (g:=g);intro l hl;unfold dA at hl;split at hl
 ·unfold kN at hl;obtain⟨i,hi,rfl⟩:=fE.1 hl;have:=tX.1 hi;exact⟨by simp,λc hc=>by rw[bI.1 hc];omega⟩
 split at hl
 ·exact En hg _ l hl
 split at hl
 ·exact En hg _ l hl
 split at hl
 ·unfold kW at hl;split at hl
  ·exact En hg _ l hl
  split at hl
  ·rcases Mr hl with hl|hl
   ·exact En hg _ l hl
   ·exact En hg _ l hl
  ·cases hl
 split at hl
 ·exact Iq l hl
 split at hl
 ·unfold kP at hl;obtain⟨⟨x,i⟩,hx,rfl⟩:=fE.1 hl;have hx:=yR.1 hx;have hxm:=bH hx;have hi:=(bP.1 hx).1;have h6:=hnm x hxm;refine⟨by rw[aci];simp;omega,λc hc=>?_⟩;rw[uF]at hc;rcases dZ.1 hc with hc|hc
  ·exact(Iq x hxm).2 c hc
  ·rw[bI.1 hc];dsimp only;omega
 split at hl
 ·unfold gZ at hl;obtain⟨⟨x,i⟩,hx,hl⟩:=List.mem_flatMap.1 hl;have hx:=yR.1 hx;have hxm:=bH hx;have hi:=(bP.1 hx).1;unfold jB at hl;obtain⟨j,hj,rfl⟩:=fE.1 hl;have hj:=(uf.1 hj).1;refine⟨by simp,λc hc=>?_⟩;simp only[dH,Fe,or_false]at hc;rcases hc with rfl|rfl
  ·omega
  ·exact(Iq x hxm).2 _ hj
 ·rw[bI.1 hl];refine⟨by rw[rR];omega,λc hc=>?_⟩;unfold upTo' at hc;obtain⟨i,hi,rfl⟩:=fE.1 hc;have:=tX.1 hi;omega
theorem ack{g:bC}(hg:fw g){rs:List (List Int)}(hr:yf g rs):∀l∈dV g rs,zO g.cells.length l:=by
 intro l hl;obtain⟨ps,hps,rfl⟩:=fE.1 hl;have hP:=hr.all ps hps;have h1:=Im hP.mem hP.nd;have h2:=hg.len;refine⟨by unfold eU;rw[cz];omega,λc hc=>?_⟩;obtain⟨p,hp,rfl⟩:=fE.1 hc;have:=Mq (hP.mem p hp);omega
theorem acm{d:bF}(hg:fw (aR d))(hr:∀r∈d.regions,yf (aR d) r.lists):∀l∈lG d,∀ps∈l,zO (aR d).cells.length ps:=by
 intro l hl ps hps;unfold lG at hl;rcases dZ.1 hl with hl|hl
 ·obtain⟨f,_,rfl⟩:=fE.1 hl;exact acj hg _ ps hps
 ·obtain⟨r,hrm,rfl⟩:=fE.1 hl;exact ack hg (hr r hrm) ps hps
theorem acn{g:bC}(hw:1<=g.w){x y:Int}(hx:0<=x)(hy:0<=y)(h:mK g x=mK g y):x=y:=by
 unfold mK at h;have h1:=congrArg Prod.fst h;have h2:=congrArg Prod.snd h;dsimp only at h1 h2;rw[sj hx,sj hy]at h2;rw[sj hx,sj hy,Cz hx,Cz hy,h2]at h1;have h3:x%g.w=y%g.w:=by
  split at h1<;>omega
 have e1:=Ol x g.w;have e2:=Ol y g.w;rw[h2,h3]at e1;omega
theorem Ir{g:bC}(hg:fw g){p q:Int×(Int×Int)}(hp:p∈bE g)(hq:q∈bE g)(h:p.1=q.1\/p.2=q.2):p=q:=by
 obtain⟨k,hk⟩:=tY.1 hp;obtain⟨j,hj⟩:=tY.1 hq;have hkl:=(bP.1 hk).1;have hjl:=(bP.1 hj).1;rw[oN]at hkl hjl;rcases h with h|h
 ·have h1:=wo hk;have h2:=wo hj;have:k=j:=by omega
  subst this;rw[hk]at hj;exact Option.some.inj hj
 ·have hx:g.cells[k]? =some g.cells[k]:=cO hkl;have hy:g.cells[j]? =some g.cells[j]:=cO hjl;have hkk:=hk;have hjj:=hj;rw[wm hx]at hk;rw[wm hy]at hj;have hk:=Option.some.inj hk;have hj:=Option.some.inj hj;have hs:mK g g.cells[k]=mK g g.cells[j]:=by rw[<- hk,<- hj]at h;exact h
  have he:=acn (by have:=hg.make.wi;omega) (hg.cell _ (wQ _)).1 (hg.cell _ (wQ _)).1 hs;have l5:g.cells.Pairwise (·<·):=by rw[hg.cells];exact Mg _ _
  have hkj:k=j:=by
   apply Classical.byContradiction;intro hne;have:=CB.1 l5;rcases Nat.lt_or_gt_of_ne hne with hl|hl
   ·have:=this k j hkl hjl hl;omega
   ·have:=this j k hjl hkl hl;omega
  subst hkj;rw[hkk]at hjj;exact Option.some.inj hjj
theorem aco(n:Nat):∀xs:List (Int×(Int×Int)),xs.length=n->(∀p∈xs,∀q∈xs,p.2=q.2->p=q)->∀p∈xs,dG p.2 (eX xs)=some (.int .i64 p.1):=by
 induction n with
 |zero=>intro xs h _ p hp;rw[jM.1 h]at hp;cases hp
 |succ n ih=>
  intro xs h hi p hp;obtain⟨ys,q,rfl⟩:∃ys q,xs=ys++[q]:=⟨xs.dropLast,xs.getLast (by intro e;rw[e]at h;cases h),(Av _).symm⟩
  rw[Mh,ww];by_cases e:p.2=q.2
  ·have:=hi p hp q (by simp) e;subst this;rw[if_pos rfl]
  ·rw[if_neg e];refine ih ys (by simpa using h) (λa ha b hb=>hi a (kF _ ha) b (kF _ hb)) p ?_;rcases dZ.1 hp with hp|hp
   ·exact hp
   ·rw[bI.1 hp]at e;exact absurd rfl e
theorem acp(n:Nat):∀xs:List (Int×(Int×Int)),xs.length=n->∀a v,dG a (eX xs)=some v->∃p∈xs,p.2=a/\v=.int .i64 p.1:=by
 induction n with
 |zero=>
  intro xs h a v hv;rw[jM.1 h]at hv;cases hv
 |succ n ih=>
  intro xs h a v hv;obtain⟨ys,q,rfl⟩:∃ys q,xs=ys++[q]:=⟨xs.dropLast,xs.getLast (by intro e;rw[e]at h;cases h),(Av _).symm⟩
  rw[Mh,ww]at hv;by_cases e:a=q.2
  ·rw[if_pos e]at hv;exact⟨q,by simp,e.symm,(Option.some.inj hv).symm⟩
  ·rw[if_neg e]at hv;obtain⟨p,h1,h2⟩:=ih ys (by simpa using h) a v hv;exact⟨p,kF _ h1,h2⟩
theorem Iu{g:bC}(hg:fw g){s:Int×Int}{d:Int×Int}{n:Int}:numOf (dG (s.1+d.1,s.2+d.2) (eX (bE g)))=some n↔∃q∈bE g,q.2=(s.1+d.1,s.2+d.2)/\q.1=n:=by
 constructor
 ·intro h;obtain⟨q,hq,h1,h2⟩:=acp _ (bE g) rfl _ _ (Td h);injection h2 with _ h2;exact⟨q,hq,h1,h2.symm⟩
 ·rintro⟨q,hq,h1,h2⟩;rw[<- h1,aco _ (bE g) rfl (λa ha b hb e=>Ir hg ha hb (.inr e)) q hq,<- h2];rfl
theorem Ms{g:bC}(hg:fw g){p:Int×(Int×Int)}{n:Int}:n∈kV g p↔∃d∈dY.take (dQ g),∃q∈bE g,q.2=(p.2.1+d.1,p.2.2+d.2)/\q.1=n:=by
 unfold kV;rw[uF];unfold gq;rw[Ff];constructor
 ·rintro⟨d,hd,h⟩;exact⟨d,hd,(Iu hg).1 h⟩
 ·rintro⟨d,hd,h⟩;exact⟨d,hd,(Iu hg).2 h⟩
theorem Te(g:bC):dQ g=4\/dQ g=6:=by unfold dQ;split<;>simp
theorem acr{m:Nat}(hm:m=4\/m=6):∀d∈dY.take m,(-d.1, -d.2)∈dY.take m:=by
 rcases hm with rfl|rfl<;>decide
theorem acs{m:Nat}:∀d∈dY.take m,¬(d.1=0/\d.2=0):=by
 intro d hd;have:=NY hd;revert d;have:∀d∈dY,¬(d.1=0/\d.2=0):=by decide
 intro d _ hd;exact this d hd
theorem acu{m:Nat}(hm:m=4\/m=6):(dY.take m).Nodup:=by
 rcases hm with rfl|rfl<;>decide
theorem acv(l:List Int):(dn l).Pairwise (λx y=>x<=y):=by
 have:=Oi (le:=λx y:Int=>decide (x<=y)) (λa b c h1 h2=>by simp at h1 h2⊢;omega) (λa b=>by simp;omega) l;exact this.imp (λh=>by simpa using h)
theorem Iw{l:List Int}(h:l.Nodup):(dn l).Pairwise (·<·):=by
 have h1:=acv l;have h2:(dn l).Nodup:=(yQ l _).symm.nodup h;have h3:(dn l).Pairwise (λx y=>x<=y/\x≠y):=List.Pairwise.and h1 h2;exact h3.imp (λh=>by omega)
theorem Mt{g:bC}(hg:fw g)(p:Int×(Int×Int)):(kV g p).Pairwise (·<·):=by
 unfold kV;refine Iw ?_;unfold gq;refine List.Pairwise.filterMap _ ?_ (acu (Te g));intro d1 d2 hne b hb b' hb' e;subst e;obtain⟨q1,h1,h2,h3⟩:=(Iu hg).1 hb;obtain⟨q2,k1,k2,k3⟩:=(Iu hg).1 hb';have:=Ir hg h1 k1 (.inl (by rw[h3,k3]));subst this;rw[h2]at k2;apply hne;have e1:=congrArg Prod.fst k2;have e2:=congrArg Prod.snd k2;dsimp only at e1 e2;exact Prod.ext (by omega) (by omega)
theorem Tf{g:bC}(hg:fw g)(i:Nat)(l:List Int)(hl:(bJ g)[i]? =some l)(k:Nat)(n:Int)(hn:l[k]? =some n):
 0<=n/\n<(bJ g).length/\n≠i/\(∀m,0<k->l[k - 1]? =some m->m<n)/\∀l',(bJ g)[n.toNat]? =some l'->(i:Int)∈l':=by
 have hnm:=xZ g;unfold bJ at hl;rw[fA]at hl;obtain⟨p,hp,rfl⟩:=mi.1 hl;have hp1:=wo hp;have hpm:=bH hp;obtain⟨d,hd,q,hq,hq2,hq1⟩:=(Ms hg).1 (bH hn);have hqi:=Ip q hq;refine⟨by omega,by omega,λe=>?_,λm hk hm=>?_,λl' hl'=>?_⟩
 ·have:q=p:=Ir hg hq hpm (.inl (by omega));subst this;have e1:=congrArg Prod.fst hq2;have e2:=congrArg Prod.snd hq2;dsimp only at e1 e2;exact acs d hd ⟨by omega,by omega⟩
 ·have hlt:=Mt hg p;obtain⟨a1,a2⟩:=bP.1 hm;obtain⟨b1,b2⟩:=bP.1 hn;have:=CB.1 hlt (k - 1) k a1 b1 (by omega);rw[a2,b2]at this;exact this
 ·unfold bJ at hl';rw[fA]at hl';obtain⟨q',hq',rfl⟩:=mi.1 hl';have h1:=wo hq';have:q'=q:=Ir hg (bH hq') hq (.inl (by omega));subst this;rw[Ms hg];refine⟨(-d.1, -d.2),acr (Te g) d hd,p,hpm,?_,hp1⟩;rw[hq2];dsimp only;exact Prod.ext (by dsimp only;omega) (by dsimp only;omega)
end Kd
namespace Kd
open Go Go.Ideal Canon Gph
def tq(r:aQ)(vals:List Int):Int:=if r.bW=⟨⟨[]⟩⟩then r.n else vals.getD 0 0
def kw(r:aQ)(vals:List Int)(most:Int):Int×Int:=if r.op=2 then(0,tq r vals)else if r.op=3 then(tq r vals,max (tq r vals) most)else(tq r vals,tq r vals)
def eY(r:aQ):Int:=if r.kind=6\/r.kind=7\/r.kind=8 then 6 else if r.kind=9\/r.kind=10 then 7 else if r.kind=11 then 0 else r.family
def ic(r:aQ):Nat:=if r.kind=1\/r.kind=4 then 2 else 0
def Tg(k:Int):Int:=if k=1 then 1 else if k=4 then 4 else if k=6 then 1 else if k=7 then 6 else if k=8 then 7 else if k=9 then 8 else 9
def gy(r:aQ)(cells vals:List Int):jl:=
 if r.kind=2 then⟨2,cells,r.set,0,(kw r vals cells.length).1,(kw r vals cells.length).2,[],0,0⟩
 else if r.kind=3 then⟨3,cells,0,0,(kw r vals 65536).1,(kw r vals 65536).2,[],0,0⟩
 else if r.kind=5 then⟨5,cells,r.set,0,0,0,vals,0,0⟩
 else if r.kind=11 then⟨2,cells,((1<<<(vals.getD 0 0).toNat:Nat):Int),0,1,1,[],0,0⟩
 else⟨Tg r.kind,cells,r.set,r.other,r.n,0,[],0,0⟩
end Kd
namespace Kd
open Go Go.Ideal Canon Gph
def oO(p:List Clue)(c:Int)(at_:Int):Option (List Int):=(p.find? λg=>decide (g.aH=c/\g.at_=at_)).map (·.values)
def mM(p:List Clue)(r:aQ)(x:List Int×Nat):Option (Nat×List Int×List Int):=if r.aH<0 then some (x.2,x.1,[])else(oO p r.aH (x.2:Int)).map λv=>(x.2,x.1,v)
def ja(p:List Clue)(r:aQ)(ls:List (List Int)):List (Nat×List Int×List Int):=ls.zipIdx.filterMap (mM p r)
theorem Iy{p:List Clue}{r:aQ}{ls:List (List Int)}{j:Nat}{l:List Int}(h:ls[j]? =some l):ja p r (ls.take (j+1))=ja p r (ls.take j)++(mM p r (l,j)).toList:=by
 have hk:=(bP.1 h).1;unfold ja;rw[bU h,Cy,Oj,gW,Ar (by omega)];congr 1;rw[List.zipIdx_cons,List.zipIdx_nil,fD,List.filterMap_cons,List.filterMap_nil];cases mM p r (l,j)<;>rfl
abbrev LA:=Nat×(List Int×Value)×(List Int×Value)
def nM(x:LA):Nat×List Int×List Int:=(x.1,x.2.1.1,x.2.2.1)
def Eo(x:LA):List Value:=[.int .i64 (x.1:Int),.agg ⟨[x.2.1.2,x.2.2.2]⟩]
def zP(x:LA):List aF:=[ah aa x.2.1.2 x.2.1.1,ah aa x.2.2.2 x.2.2.1]
def yj(l:List (Nat×List Int×List Int)):List LA:=l.map λy=>(y.1,(y.2.1,.nilFunc),(y.2.2,.nilFunc))
theorem Ti(l:List (Nat×List Int×List Int)):(yj l).map nM=l:=by
 unfold yj;rw[uW];have:nM∘(λy:Nat×List Int×List Int=>((y.1,(y.2.1,Value.nilFunc),(y.2.2,Value.nilFunc)):LA))=id:=rfl;rw[this,List.map_id]
end Kd
namespace Kd
open Go Go.Ideal Canon Gph
theorem acw(kf:Int×Int->Int×Bool)(n:Nat):∀ps:List (Int×(Int×Int)),ps.length=n->∀a,((dG a (jo kf ps)).getD []).Sublist (ps.map (·.1)):=by
 induction n with
 |zero=>
  intro ps h a;rw[jM.1 h];exact List.Sublist.refl _
 |succ n ih=>
  intro ps h a;obtain⟨qs,p,rfl⟩:∃qs p,ps=qs++[p]:=⟨ps.dropLast,ps.getLast (by intro e;rw[e]at h;cases h),(Av _).symm⟩
  have hq:qs.length=n:=by simpa using h
  have ih:=ih qs hq;rw[eB,Ei];unfold uE;cases hb:(kf p.2).2 with
  |false=>exact(ih a).trans (List.sublist_append_left _ _)
  |true=>
   show((dG a (upd (kf p.2).1 ((dG (kf p.2).1 (jo kf qs)).getD []++[p.1]) (jo kf qs))).getD []).Sublist _;rw[ww];by_cases e:a=(kf p.2).1
   ·rw[if_pos e,tT];exact(ih _).append (List.Sublist.refl _)
   ·rw[if_neg e];exact(ih a).trans (List.sublist_append_left _ _)
theorem acy{g:bC}:(bE g).map (·.1)=upTo' g.cells.length:=by
 apply kE;intro i;unfold upTo';rw[fA,fA];by_cases h:i<g.cells.length
 ·rw[wm (cO h),Fa h];rfl
 ·rw[iH (by rw[oN];omega),iH (by rw[Fh];omega)];rfl
theorem Tj(n:Nat):(upTo' n).Nodup:=by
 unfold upTo';refine List.Pairwise.map _ (λa b h=>?_) List.nodup_range;intro e;apply h;omega
theorem Ep{g:bC}(kf:Int×Int->Int×Bool):∀l∈iU g kf,l.Nodup:=by
 intro l hl;unfold iU at hl;obtain⟨n,_,rfl⟩:=fE.1 hl;have:=acw kf _ (bE g) rfl n;rw[acy]at this;exact this.nodup (Tj _)
theorem Tk{g:bC}(hg:fw g)(p:Int×(Int×Int)):(kV g p).Nodup:=(Mt hg p).imp (λh=>by omega)
theorem acz{l:List Int}(h:l.Nodup):(dn l).Nodup:=(Iw h).imp (λh=>by omega)
theorem Tm{bq:List (List Int)}{l:List Int}(h:l∈gZ bq):∃(i:Nat) (x:List Int) (j:Int),bq[i]? =some x/\j∈x/\(i:Int)<j/\l=[(i:Int),j]:=by
 unfold gZ at h;obtain⟨⟨x,i⟩,hx,hl⟩:=List.mem_flatMap.1 h;unfold jB at hl;obtain⟨j,hj,rfl⟩:=fE.1 hl;obtain⟨h1,h2⟩:=uf.1 hj;exact⟨i,x,j,yR.1 hx,h1,gX h2,rfl⟩
theorem acA{g:bC}(hg:fw g)(k:Int):∀l∈dA g k,l.Nodup:=by
 intro l hl;unfold dA at hl;split at hl
 ·unfold kN at hl;obtain⟨i,hi,rfl⟩:=fE.1 hl;simp
 split at hl
 ·exact Ep _ l hl
 split at hl
 ·exact Ep _ l hl
 split at hl
 ·unfold kW at hl;split at hl
  ·exact Ep _ l hl
  split at hl
  ·rcases Mr hl with hl|hl
   ·exact Ep _ l hl
   ·exact Ep _ l hl
  ·cases hl
 split at hl
 ·unfold bJ at hl;obtain⟨p,_,rfl⟩:=fE.1 hl;exact Tk hg p
 split at hl
 ·unfold kP at hl;obtain⟨⟨x,i⟩,hx,rfl⟩:=fE.1 hl;have hx:=yR.1 hx;have hxm:=bH hx;refine acz ?_;rw[iP];refine⟨?_,by simp,λa ha b hb e=>?_⟩
  ·unfold bJ at hxm;obtain⟨p,_,rfl⟩:=fE.1 hxm;exact Tk hg p
  ·rw[bI.1 hb]at e;obtain⟨j,hj⟩:=mP ha;exact(Tf hg i x hx j a hj).2.2.1 e
 split at hl
 ·obtain⟨i,x,j,h1,h2,h3,rfl⟩:=Tm hl;simp only[Ap,bI,Fe,not_false_iff,tZ,wU];omega
 ·rw[bI.1 hl];exact Tj _
theorem acB{d:bF}(hg:fw (aR d))(hr:∀r∈d.regions,yf (aR d) r.lists):∀l∈lG d,∀ps∈l,ps.Nodup:=by
 intro l hl ps hps;unfold lG at hl;rcases dZ.1 hl with hl|hl
 ·obtain⟨f,_,rfl⟩:=fE.1 hl;exact acA hg _ ps hps
 ·obtain⟨r,hrm,rfl⟩:=fE.1 hl;obtain⟨q,hq,rfl⟩:=fE.1 hps;exact((hr r hrm).all q hq).nd
end Kd
namespace Kd
open Go Go.Ideal Canon Gph
def BM(k:bS)(p:List Clue)(r:aQ):List (Nat×List Int×List Int):=(ja p r (k.lists.getD (eY r).toNat [])).filter λx=>decide (ic r<=x.2.1.length)
def gV(r:aQ)(i:Nat)(x:Nat×List Int×List Int):jl:={gy r x.2.1 x.2.2 with rule:=(i:Int),at_:=(x.1:Int)}
def uI(k:bS)(p:List Clue)(r:aQ)(i:Nat):List jl:=(BM k p r).map (gV r i)
def mO(k:bS)(p:List Clue):List jl:=k.decl.rules.zipIdx.flatMap λx=>uI k p x.1 x.2
theorem Iz{k:bS}{p:List Clue}(h:jR k p):∀(d i:Nat) a b,p[i]? =some a->p[i+1+d]? =some b->gu a b<0
 |0,i,a,b,ha,hb=>h.sorted i a b ha hb
 |d+1,i,a,b,ha,hb=>by
  have hlt:=(bP.1 hb).1;have hc:p[i+1+d]? =some (p[i+1+d]'(by omega)):=cO _;exact Ej (Iz h d i a _ ha hc) (h.sorted (i+1+d) _ b hc hb)
theorem acC{k:bS}{p:List Clue}(h:jR k p){a b:Clue}(ha:a∈p)(hb:b∈p)(h1:a.aH=b.aH)(h2:a.at_=b.at_):a=b:=by
 obtain⟨i,hi⟩:=mP ha;obtain⟨j,hj⟩:=mP hb;rcases Nat.lt_trichotomy i j with hl|hl|hl
 ·have:=uH.1 (Iz h (j - (i+1)) i a b hi (by rw[show i+1+(j - (i+1))=j by omega];exact hj));omega
 ·subst hl;rw[hi]at hj;exact Option.some.inj hj
 ·have:=uH.1 (Iz h (i - (j+1)) j b a hj (by rw[show j+1+(i - (j+1))=i by omega];exact hi));omega
theorem acD{k:bS}{p:List Clue}(h:jR k p){c a:Int}{v:List Int}:oO p c a=some v↔∃g∈p,g.aH=c/\g.at_=a/\g.values=v:=by
 unfold oO;constructor
 ·intro hf;obtain⟨g,hg,rfl⟩:=mi.1 hf;have h1':=List.find?_some hg;have h1:g.aH=c/\g.at_=a:=gX h1';exact⟨g,Oh hg,h1.1,h1.2,rfl⟩
 ·rintro⟨g,hg,h1,h2,rfl⟩;cases hf:p.find? (λg=>decide (g.aH=c/\g.at_=a))with
  |none=>exact absurd (dS ⟨h1,h2⟩) (Fp.1 hf g hg)
  |some g2=>
   have h3':=List.find?_some hf;have h3:g2.aH=c/\g2.at_=a:=gX h3';rw[acC h hg (Oh hf) (by omega) (by omega)];rfl
theorem Er{p:List Clue}{r:aQ}{ls:List (List Int)}{y:Nat×List Int×List Int}:y∈ja p r ls↔ls[y.1]? =some y.2.1/\((r.aH<0/\y.2.2=[])\/(0<=r.aH/\oO p r.aH (y.1:Int)=some y.2.2)):=by
 obtain⟨j,l,v⟩:=y;unfold ja;rw[Ff];constructor
 ·rintro⟨⟨x,i⟩,hx,h⟩;have hx:=yR.1 hx;unfold mM at h;split at h
  ·rename_i hc;cases h;exact⟨hx,.inl ⟨hc,rfl⟩⟩
  ·rename_i hc;obtain⟨w,hw,e⟩:=mi.1 h;cases e;exact⟨hx,.inr ⟨by omega,hw⟩⟩
 ·rintro⟨h1,h2⟩;refine⟨(l,j),yR.2 h1,?_⟩;unfold mM;rcases h2 with⟨hc,e⟩|⟨hc,e⟩
  ·rw[if_pos hc];dsimp only at e;rw[e]
  ·rw[if_neg (by omega)];dsimp only at e⊢;rw[e];rfl
end Kd
namespace Kd
open Go Go.Ideal
end Kd
namespace Kd
open Go Go.Ideal Canon Gph
theorem acE{g:bC}(hg:fw g)(k:Int):(dA g k).length<=2048:=by
 have hl:=hg.len;have hn:=xZ g;have hL:=λkf=>Ij hg kf;unfold dA;split
 ·unfold kN;rw[cz,Fh];omega
 split
 ·have:=(hL (λs=>(s.2,true))).1;omega
 split
 ·have:=(hL (λs=>(s.1,true))).1;omega
 split
 ·unfold kW;split
  ·have:=(hL (λs=>(s.1+s.2,true))).1;omega
  split
  ·have h1:=hL (λs=>(0,decide (s.1=s.2)));have h2:=hL (λs=>(0,decide (s.1+s.2=g.w - 1)));have:=(Mk h1.2 h2.2 (iU g (λs=>(0,decide (s.1+s.2=g.w - 1)))).length).1;rw[bK]at this;omega
  ·simp
 split
 ·omega
 split
 ·unfold kP;rw[cz,List.length_zipIdx];omega
 split
 ·have:=Ik (bq:=bJ g) Il (bJ g).length (bQ _);rw[bK]at this;omega
 ·simp
theorem Tn{d:bF}(hg:fw (aR d))(hr:∀r∈d.regions,yf (aR d) r.lists):∀l∈lG d,l.length<=2048:=by
 intro l hl;unfold lG at hl;rcases dZ.1 hl with hl|hl
 ·obtain⟨f,_,rfl⟩:=fE.1 hl;exact acE hg _
 ·obtain⟨r,hrm,rfl⟩:=fE.1 hl;have:=(hr r hrm).len;unfold dV;rw[cz];omega
def j5(k:bS)(p:List Clue)(j:Nat):List jl:=(k.decl.rules.take j).zipIdx.flatMap λx=>uI k p x.1 x.2
theorem Tp{k:bS}{p:List Clue}:j5 k p k.decl.rules.length=mO k p:=by unfold j5 mO;rw[bK]
theorem IA{k:bS}{p:List Clue}{j:Nat}{r:aQ}(h:k.decl.rules[j]? =some r):j5 k p (j+1)=j5 k p j++uI k p r j:=by
 have hk:=(bP.1 h).1;unfold j5;rw[bU h,Cy,List.flatMap_append,gW,Ar (by omega)];simp
theorem IB{p:List Clue}{r:aQ}{ls:List (List Int)}:(ja p r ls).length<=ls.length:=by
 unfold ja;exact mh (VH _ _) (by rw[List.length_zipIdx];exact bQ _)
theorem acF{k:bS}{p:List Clue}{r:aQ}{j:Nat}(hl:∀l∈k.lists,l.length<=2048):(uI k p r j).length<=2048:=by
 unfold uI BM;rw[cz];refine mh (Au _ _) (mh IB ?_);rw[List.getD];cases h:k.lists[(eY r).toNat]? with
 |none=>simp
 |some l=>exact hl l (bH h)
theorem IC{k:bS}{p:List Clue}(hl:∀l∈k.lists,l.length<=2048):∀j,j<=k.decl.rules.length->(j5 k p j).length<=2048*j
 |0,_=>bY _
 |j+1,hj=>by
  have:=IC (p:=p) hl j (by omega);rw[IA (cO (by omega)),gH];have:=acF (p:=p) (r:=k.decl.rules[j]) (j:=j) hl;omega
end Kd
namespace Kd
open Canon
theorem IE{a b:Clue}:gu a b=0↔a.aH=b.aH/\a.at_=b.at_:=by
 unfold gu fU;simp only[rT];split<;>split at *<;>(try split at *)<;>(try split at *)<;>(try split at *)<;>omega
theorem acG(a b:Clue):sU a b=if gu a b≠0 then gu a b else iL fU a.values b.values:=by
 rw[ZI,<- Ta]
theorem acH{a b:Clue}:sU a b<0↔gu a b<0\/(gu a b=0/\iL fU a.values b.values<0):=by
 rw[acG];split<;>omega
structure ym(xs rs:List Clue):Prop where
 inc:rs.Pairwise λa b=>gu a b<0
 sub:∀r∈rs,r∈xs
 all:∀x∈xs,∃r∈rs,gu x r=0/\¬iL fU x.values r.values<0
theorem acI{rs:List Clue}(h:rs.Pairwise λa b=>gu a b<0){a b:Clue}(ha:a∈rs)(hb:b∈rs)(he:gu a b=0):a=b:=by
 induction h with
 |nil=>cases ha
 |cons h1 _ ih=>
  rcases dH.1 ha with e1|ha'<;>rcases dH.1 hb with e2|hb'
  ·rw[e1,e2]
  ·have:=h1 b hb';rw[<- e1]at this;omega
  ·have:=h1 a ha';rw[<- e2]at this;rw[IE]at he;rw[uH]at this;omega
  ·exact ih ha' hb'
theorem ym.mem{xs rs rs':List Clue}(h:ym xs rs)(h':ym xs rs'){r:Clue}(hr:r∈rs):r∈rs':=by
 obtain⟨r2,m2,p2,v2⟩:=h'.all r (h.sub r hr);obtain⟨r1,m1,p1,v1⟩:=h.all r2 (h'.sub r2 m2);have h3:gu r r1=0:=by rw[IE]at *;omega
 have:=acI h.inc hr m1 h3;subst this;have hO:=xJ uw;have h4:iL fU r.values r2.values=0:=by
  have:=hO.neg r2.values r.values;have:=hO.neg r.values r2.values;omega
 have h5:=(hO.zero _ _).1 h4;rw[IE]at p2;have:r=r2:=by cases r;cases r2;simp_all
 rw[this];exact m2
theorem ym.self{xs rs:List Clue}(h:ym xs rs):ym rs rs:=⟨h.inc,λ_ h=>h,λx hx=>⟨x,hx,by rw[IE];exact⟨rfl,rfl⟩,by have:=((xJ uw).zero x.values x.values).2 rfl;omega⟩⟩
def opn(p:List Clue)(x:Clue):Bool:=match p.getLast? with
 |none=>true
 |some y=>decide (0<gu x y)
theorem Mv{p:List Clue}{b x:Clue}:opn (p++[b]) x=decide (0<gu x b):=by
 unfold opn;rw[List.getLast?_append];rfl
theorem IG{a b:Clue}:0<gu a b↔gu b a<0:=by
 rw[uH];unfold gu fU;simp only[rT];split<;>split at *<;>(try split at *)<;>(try split at *)<;>(try split at *)<;>omega
structure zQ(l p:List Clue)(n:Nat):Prop where
 inc:p.Pairwise λa b=>gu a b<0
 sub:∀r∈p,r∈l
 done:∀x∈l,opn p x=false->∃r∈p,gu x r=0/\¬iL fU x.values r.values<0
 cnt:l.countP (opn p)+n<=l.length
theorem Tq{α:Type}{p q:α->Bool}:∀{l:List α} {b:α},b∈l->p b=true->q b=false->(∀x,q x=true->p x=true)->l.countP q+1<=l.countP p
 |x::l,b,hb,h1,h2,h3=>by
  rw[List.countP_cons,List.countP_cons];rcases dH.1 hb with rfl|hb
  ·have:=List.countP_mono_left (l:=l) (p:=q) (q:=p) λx _=>h3 x;rw[h1,h2];simp only[if_true];simp;omega
  ·have:=Tq hb h1 h2 h3;by_cases e:q x=true
   ·rw[if_pos e,if_pos (h3 x e)];omega
   ·rw[if_neg e];omega
theorem Tt:∀{p:List Clue} {y:Clue},(p.Pairwise λa b=>gu a b<0)->p.getLast? =some y->∀a∈p,a=y\/gu a y<0
 |[],y,_,h,a,ha=>by cases ha
 |[x],y,_,h,a,ha=>by
  cases h;exact .inl (bI.1 ha)
 |x::z::p,y,hp,h,a,ha=>by
  obtain⟨h1,h2⟩:=si.1 hp;have h':(z::p).getLast? =some y:=by rw[List.getLast?_cons_cons]at h;exact h
  rcases dH.1 ha with rfl|ha
  ·exact .inr (h1 y (List.mem_of_getLast? h'))
  ·exact Tt h2 h' a ha
theorem zQ.step{l p:List Clue}{n:Nat}{b:Clue}(h:zQ l p n)(hb:b∈l)(ho:opn p b=true)(hl:∀x∈l,opn p x=true->¬sU x b<0):zQ l (p++[b]) (n+1):=by
 have hab:∀y,p.getLast? =some y->gu y b<0:=λy hy=>by
  unfold opn at ho;rw[hy]at ho;exact IG.1 (gX ho)
 refine⟨JA.2 ⟨h.inc,List.pairwise_singleton ..,λa ha b' hb'=>?_⟩,λr hr=>?_,λx hx hc=>?_,?_⟩
 ·rw[bI.1 hb'];cases e:p.getLast? with
  |none=>rw[List.getLast?_eq_none_iff.1 e]at ha;cases ha
  |some y=>
   have h2:=hab y e;rcases Tt h.inc e a ha with rfl|h1
   ·exact h2
   ·exact Ej h1 h2
 ·rcases dZ.1 hr with hr|hr
  ·exact h.sub r hr
  ·rw[bI.1 hr];exact hb
 ·rw[Mv]at hc;have hc:=mQ hc;cases e:opn p x with
  |true=>
   have h1:=hl x hx e;rw[acH]at h1;refine⟨b,by simp,?_,?_⟩
   ·by_cases h2:gu x b<0
    ·exact absurd (.inl h2) h1
    ·omega
   ·intro h2;by_cases h3:gu x b<0
    ·exact h1 (.inl h3)
    ·exact h1 (.inr ⟨by omega,h2⟩)
  |false=>
   obtain⟨r,m,q⟩:=h.done x hx e;exact⟨r,kF _ m,q⟩
 ·have:=Tq (p:=opn p) (q:=opn (p++[b])) hb ho (by rw[Mv];exact aU (by rw[IG,uH];omega)) (λx hx=>by
   rw[Mv]at hx;have hx:=gX hx;unfold opn;cases e:p.getLast? with
   |none=>rfl
   |some y=>exact dS (IG.2 (Ej (hab y e) (IG.1 hx))))
  have:=h.cnt;omega
theorem zQ.stop{l p:List Clue}{n:Nat}(h:zQ l p n)(hn:∀x∈l,opn p x=false):ym l p:=⟨h.inc,h.sub,λx hx=>h.done x hx (hn x hx)⟩
theorem zQ.full{l p:List Clue}(h:zQ l p l.length):ym l p:=h.stop λx hx=>by
 have h1:=h.cnt;have h2:l.countP (opn p)=0:=by omega
 rw[List.countP_eq_zero]at h2;simpa using h2 x hx
end Kd
namespace Kd
open Canon
end Kd
namespace Kd
open Go Go.Ideal Canon Gph
end Kd
namespace Kd
open Go Go.Ideal
theorem Mw:∀{a b:List Int},a.Pairwise (·<·)->b.Pairwise (·<·)->(∀x,x∈a↔x∈b)->a=b
 |[],[],_,_,_=>rfl
 |[],y::b,_,_,h=>by have:=(h y).2 (dM ..);cases this
 |x::a,[],_,_,h=>by have:=(h x).1 (dM ..);cases this
 |x::a,y::b,ha,hb,h=>by
  have hxy:x=y:=by
   rcases dH.1 ((h x).1 (dM ..))with e|hx
   ·exact e
   rcases dH.1 ((h y).2 (dM ..))with e|hy
   ·exact e.symm
   have:=(si.1 ha).1 y hy;have:=(si.1 hb).1 x hx;omega
  subst hxy;rw[Mw (si.1 ha).2 (si.1 hb).2 λz=>?_];constructor
  ·intro hz;have:=(si.1 ha).1 z hz;exact(dH.1 ((h z).1 (dJ _ hz))).resolve_left (by omega)
  ·intro hz;have:=(si.1 hb).1 z hz;exact(dH.1 ((h z).2 (dJ _ hz))).resolve_left (by omega)
theorem acJ{n:Nat}{x:Int}:x∈upTo' n↔0<=x/\x<(n:Int):=by
 unfold upTo';rw[fE];constructor
 ·rintro⟨i,hi,rfl⟩;have:=tX.1 hi;omega
 ·intro h;exact⟨x.toNat,tX.2 (by omega),by omega⟩
theorem acK(n:Nat):(upTo' n).Pairwise (·<·):=by
 unfold upTo';rw[Fs];exact List.Pairwise.imp (λh=>by omega) List.pairwise_lt_range
def dR(n:Nat)(p:Int->Bool):List Int:=(upTo' n).filter p
theorem acL{n:Nat}{p:Int->Bool}{x:Int}:x∈dR n p↔(0<=x/\x<(n:Int))/\p x=true:=by
 unfold dR;rw[uf,acJ]
theorem Tu(n:Nat)(p:Int->Bool):(dR n p).Pairwise (·<·):=List.Pairwise.filter _ (acK n)
theorem zR(k:Nat)(p:Int->Bool):dR (k+1) p=dR k p++if p (k:Int)then[(k:Int)]else[]:=by
 unfold dR;rw[uG,wV];congr 1;rw[Jp];split<;>simp
theorem zS(n:Nat)(p:Int->Bool):(dR n p).length<=n:=by
 unfold dR;refine mh (Au _ _) ?_;rw[rR];exact bQ _
theorem II{l:List Int}(hi:l.Pairwise (·<·)){n:Nat}{p:Int->Bool}(h:∀x,x∈l↔(0<=x/\x<(n:Int))/\p x=true):l=dR n p:=
 Mw hi (Tu n p) λx=>(h x).trans acL.symm
theorem acM(n:Nat)(holes:List Int):gG n holes=dR n λi=>!decide (i∈holes):=rfl
theorem Tv{n:Nat}{holes:List Int}(hi:holes.Pairwise (·<·))(hm:∀x∈holes,0<=x/\x<(n:Int)):dR n (λi=>decide (i∈holes))=holes:=
 (II hi λx=>⟨λh=>⟨hm x h,dS h⟩,λh=>gX h.2⟩).symm
theorem acN{n:Nat}{holes:List Int}(hi:holes.Pairwise (·<·))(hm:∀x∈holes,0<=x/\x<(n:Int)):(gG n holes).length+holes.length=n:=by
 have h1:(dR n λi=>decide (i∈holes)).length=holes.length:=by rw[Tv hi hm]
 have h2:=List.length_eq_countP_add_countP (λi:Int=>decide (i∈holes)) (l:=upTo' n);rw[rR,List.countP_eq_length_filter,List.countP_eq_length_filter]at h2;have h3:gG n holes=List.filter (λa=>decide ¬decide (a∈holes)=true) (upTo' n):=by
  rw[acM];unfold dR;congr 1;funext i
  by_cases h:i∈holes<;>simp[h]
 rw[h3];unfold dR at h1;omega
structure acO(s w h:Int)(holes:List Int):Prop where
 sh:s=1\/s=2
 wi:1<=w/\w<=16
 he:1<=h/\h<=16
 inc:holes.Pairwise (·<·)
 mem:∀x∈holes,0<=x/\x<w*h
 ne:lZ w h holes≠[]
theorem uJ{s w h:Int}{holes:List Int}:acO s w h holes↔nL s w h holes:=by
 have key:(1<=w/\w<=16)->(1<=h/\h<=16)->holes.Pairwise (·<·)->(∀x∈holes,0<=x/\x<w*h)->(lZ w h holes≠[]↔(holes.length:Int)<w*h):=by
  intro hw hh hi hm;have hb:=wh hw hh;obtain⟨m,hmm⟩:=qf (show 0<=w*h by omega);rw[hmm]at hm⊢;unfold lZ;rw[hmm,Am];have:=acN hi hm;rw[<- Cv];omega
 exact⟨λq=>⟨q.sh,q.wi,q.he,(key q.wi q.he q.inc q.mem).1 q.ne,q.inc,q.mem⟩,λq=>⟨q.sh,q.wi,q.he,q.inc,q.mem,(key q.wi q.he q.inc q.mem).2 q.len⟩⟩
def iN(g:bC)(c:Int):Int×Int:=((g.cells[c.toNat]?).map (mK g)).getD (0,0)
theorem BN{g:bC}{k:Nat}{x:Int}(h:g.cells[k]? =some x):iN g (k:Int)=mK g x:=by
 unfold iN;rw[Am,h];rfl
theorem Es{g:bC}{q:Int×(Int×Int)}:q∈bE g↔(0<=q.1/\q.1<(g.cells.length:Int))/\q.2=iN g q.1:=by
 constructor
 ·intro h;refine⟨Ip q h,?_⟩;obtain⟨k,hk⟩:=tY.1 h;have h1:=wo hk;have hkl:=(bP.1 hk).1;rw[oN]at hkl;have hx:g.cells[k]? =some g.cells[k]:=cO hkl;rw[wm hx]at hk;have hk:=Option.some.inj hk;rw[h1,BN hx,<- hk]
 ·rintro⟨⟨h1,h2⟩,h3⟩;have hkl:q.1.toNat<g.cells.length:=by omega
  have hx:g.cells[q.1.toNat]? =some g.cells[q.1.toNat]:=cO hkl;have h4:=wm hx;rw[show((q.1.toNat:Nat):Int)=q.1 by omega]at h4;have h5:iN g q.1=mK g g.cells[q.1.toNat]:=by
   have:=BN hx
   rwa [show((q.1.toNat:Nat):Int)=q.1 by omega]at this
  rw[<- h5,<- h3]at h4;exact bH h4
def wB(sh:Int)(s t:Int×Int):Bool:=
 if sh=1 then(decide (t.2 - s.2=0)&&(decide (t.1 - s.1=1)||decide (t.1 - s.1= -1)))||(decide (t.1 - s.1=0)&&(decide (t.2 - s.2=1)||decide (t.2 - s.2= -1)))
 else(decide (t.1 - s.1=1)&&decide (t.2 - s.2=0))||(decide (t.1 - s.1= -1)&&decide (t.2 - s.2=0))||(decide (t.1 - s.1=0)&&decide (t.2 - s.2=1))||(decide (t.1 - s.1=0)&&decide (t.2 - s.2= -1))||(decide (t.1 - s.1=1)&&decide (t.2 - s.2= -1))||(decide (t.1 - s.1= -1)&&decide (t.2 - s.2=1))
theorem acP{g:bC}{s t:Int×Int}:wB g.shape s t=true↔∃d∈dY.take (dQ g),t=(s.1+d.1,s.2+d.2):=by
 obtain⟨s1,s2⟩:=s;obtain⟨t1,t2⟩:=t;unfold wB dQ;by_cases h:g.shape=1
 ·rw[if_pos h,if_pos h];simp[dY];omega
 ·rw[if_neg h,if_neg h];simp[dY];omega
theorem acQ{g:bC}(hg:fw g){p:Int×(Int×Int)}:kV g p=dR g.cells.length λb=>wB g.shape p.2 (iN g b):=by
 refine II (Mt hg p) λc=>?_;rw[Ms hg,acP];constructor
 ·rintro⟨d,hd,q,hq,h1,rfl⟩;obtain⟨h2,h3⟩:=Es.1 hq;exact⟨h2,d,hd,h3▸h1⟩
 ·rintro⟨h2,d,hd,h1⟩;exact⟨d,hd,(c,iN g c),Es.2 ⟨h2,rfl⟩,h1,rfl⟩
theorem Tw{g:bC}(hg:fw g){k:Nat}(hk:k<g.cells.length):(bJ g)[k]? =some (dR g.cells.length λb=>wB g.shape (iN g k) (iN g b)):=by
 unfold bJ;have hx:g.cells[k]? =some g.cells[k]:=cO hk;rw[fA,wm hx,jU,acQ hg,BN hx]
theorem Ef{α β:Type}[DecidableEq α](b:α)(v:β):∀m:List (α×β),(upd b v m).map (·.1)=if b∈m.map (·.1)then m.map (·.1)else m.map (·.1)++[b]
 |[]=>by
  rw[if_neg (by simp)];rfl
 |(a,u)::m=>by
  unfold upd;by_cases e:b=a
  ·rw[if_pos e,if_pos (by rw[e];simp),e];rfl
  ·rw[if_neg e,gT,gT,Ef b v m];by_cases h:b∈m.map (·.1)
   ·rw[if_pos h,if_pos (dJ _ h)]
   ·rw[if_neg h,if_neg (by rw[dH,not_or];exact⟨e,h⟩)];rfl
def om(kf:Int×Int->Int×Bool)(ps:List (Int×(Int×Int)))(n:Int):List Int:=(ps.filter λp=>(kf p.2).2&&decide ((kf p.2).1=n)).map (·.1)
theorem Mx(kf:Int×Int->Int×Bool)(ps:List (Int×(Int×Int)))(p:Int×(Int×Int))(n:Int):om kf (ps++[p]) n=om kf ps n++if((kf p.2).2&&decide ((kf p.2).1=n))=true then[p.1]else[]:=by
 unfold om;rw[wV,eB];congr 1;rw[Jp];split<;>simp
theorem acR(kf:Int×Int->Int×Bool)(m:Nat):∀ps:List (Int×(Int×Int)),ps.length=m->((jo kf ps).map (·.1)).Nodup/\∀n,(n∈(jo kf ps).map (·.1)↔om kf ps n≠[])/\(dG n (jo kf ps)).getD []=om kf ps n:=by
 induction m with
 |zero=>
  intro ps h;rw[jM.1 h];exact⟨tZ,λn=>⟨by simp[jo,om],rfl⟩⟩
 |succ m ih=>
  intro ps h;obtain⟨qs,p,rfl⟩:∃qs p,ps=qs++[p]:=⟨ps.dropLast,ps.getLast (by intro e;rw[e]at h;cases h),(Av _).symm⟩
  obtain⟨h1,h2⟩:=ih qs (by simpa using h);rw[Ei];unfold uE;cases hb:(kf p.2).2 with
  |false=>
   refine⟨h1,λn=>?_⟩;rw[Mx,hb,if_neg (by simp),gN];exact h2 n
  |true=>
   dsimp only[cond];rw[Ef];refine⟨?_,λn=>⟨?_,?_⟩⟩
   ·split
    ·exact h1
    ·rename_i hn;rw[iP];exact⟨h1,by simp,λa ha b hb'=>by rw[bI.1 hb'];exact λe=>hn (e▸ha)⟩
   ·rw[Mx,hb];by_cases e:(kf p.2).1=n
    ·have hc:(true&&decide ((kf p.2).1=n))=true:=by simp[e]
     rw[if_pos hc];split
     ·rename_i hn;rw[e]at hn;exact⟨λ_=>by simp,λ_=>hn⟩
     ·rw[e];exact⟨λ_=>by simp,λ_=>o9 _ (bI.2 rfl)⟩
    ·have hc:¬(true&&decide ((kf p.2).1=n))=true:=by simp[e]
     rw[if_neg hc,gN];split
     ·exact(h2 n).1
     ·rw[dZ,(h2 n).1];simp only[bI];exact⟨λh=>h.resolve_right (λx=>e x.symm),.inl⟩
   ·rw[ww,Mx,hb];by_cases e:(kf p.2).1=n
    ·rw[if_pos e.symm,if_pos (by simp[e]),tT,(h2 _).2,e]
    ·rw[if_neg (λx=>e x.symm),if_neg (by simp[e]),gN];exact(h2 n).2
theorem Tx{g:bC}(kf:Int×Int->Int×Bool)(n:Int):om kf (bE g) n=dR g.cells.length λc=>(kf (iN g c)).2&&decide ((kf (iN g c)).1=n):=by
 refine II ?_ λc=>?_
 ·unfold om;rw[Fs];refine List.Pairwise.filter _ ?_;rw[CB];intro i j hi hj hij;have h1:=wo (cO hi);have h2:=wo (cO hj);rw[h1,h2];omega
 ·unfold om;rw[fE];constructor
  ·rintro⟨p,hp,rfl⟩;obtain⟨h1,h2⟩:=uf.1 hp;obtain⟨h3,h4⟩:=Es.1 h1;rw[<- h4];exact⟨h3,h2⟩
  ·rintro⟨h1,h2⟩;exact⟨(c,iN g c),uf.2 ⟨Es.2 ⟨h1,rfl⟩,h2⟩,rfl⟩
def uK(lo:Int)(k:Nat):List Int:=(List.range k).map λi:Nat=>lo+(i:Int)
theorem acS(lo:Int)(k:Nat):uK lo (k+1)=uK lo k++[lo+(k:Int)]:=by
 unfold uK;rw[Jy,eB];rfl
theorem acT{lo:Int}{k:Nat}{x:Int}:x∈uK lo k↔lo<=x/\x<lo+(k:Int):=by
 unfold uK;rw[fE];constructor
 ·rintro⟨i,hi,rfl⟩;have:=tX.1 hi;omega
 ·intro h;exact⟨(x - lo).toNat,tX.2 (by omega),by omega⟩
theorem acU(lo:Int)(k:Nat):(uK lo k).Pairwise (·<·):=by
 unfold uK;rw[Fs];exact List.Pairwise.imp (λh=>by omega) List.pairwise_lt_range
def yo(L:Int->List Int)(lo:Int)(k:Nat):List (List Int):=((uK lo k).map L).filter λl=>!l.isEmpty
theorem Ty(L:Int->List Int)(lo:Int)(k:Nat):yo L lo (k+1)=yo L lo k++if L (lo+(k:Int))=[]then[]else[L (lo+(k:Int))]:=by
 unfold yo;rw[acS,eB,wV];congr 1;rw[nV,Jp];cases h:L (lo+(k:Int))with
 |nil=>rfl
 |cons x l=>simp
theorem Tz{g:bC}(kf:Int×Int->Int×Bool){lo:Int}{k:Nat}(hk:∀p∈bE g,(kf p.2).2=true->lo<=(kf p.2).1/\(kf p.2).1<lo+(k:Int)):iU g kf=yo (om kf (bE g)) lo k:=by
 obtain⟨h1,h2⟩:=acR kf _ (bE g) rfl;have h3:dn ((jo kf (bE g)).map (·.1))=(uK lo k).filter λn=>!(om kf (bE g) n).isEmpty:=by
  refine Mw (Iw h1) (List.Pairwise.filter _ (acU lo k)) λn=>?_;rw[uF,(h2 n).1,uf,acT];have hne:((!(om kf (bE g) n).isEmpty)=true)↔om kf (bE g) n≠[]:=by
   cases om kf (bE g) n<;>simp
  rw[hne];refine⟨λh=>⟨?_,h⟩,λh=>h.2⟩;obtain⟨c,hc⟩:=List.exists_mem_of_ne_nil _ h;unfold om at hc;obtain⟨p,hp,_⟩:=fE.1 hc;obtain⟨hp1,hp2⟩:=uf.1 hp;simp only[gJ,wR]at hp2;rw[<- hp2.2];exact hk p hp1 hp2.1
 unfold iU yo;rw[h3,List.filter_map];refine Fb λn _=>?_;exact(h2 n).2
theorem TA{g:bC}(c:Int×Int->Bool):iU g (λs=>(0,c s))=if dR g.cells.length (λb=>c (iN g b))=[]then[]else[dR g.cells.length λb=>c (iN g b)]:=by
 rw[Tz (lo:=0) (k:=1) (λs=>(0,c s)) (λp _ _=>⟨Int.le_refl 0,by omega⟩)];rw[show(1:Nat)=0+1 from rfl,Ty];have e:om (λs=>(0,c s)) (bE g) (0+((0:Nat):Int))=dR g.cells.length λb=>c (iN g b):=by
  rw[Tx];congr 1;funext b
  simp
 rw[e];rfl
theorem acV{g:bC}(hg:fw g){k:Nat}{l:List Int}(hl:(bJ g)[k]? =some l):dn (l++[(k:Int)])=dR g.cells.length λb=>decide (b=(k:Int))||decide (b∈l):=by
 have hk:k<g.cells.length:=by have:=(bP.1 hl).1;rwa [xZ]at this
 have hls:∀c∈l,(0<=c/\c<(g.cells.length:Int)):=(Iq l (bH hl)).2;have hlt:l.Pairwise (·<·):=by
  have:=Tw hg hk;rw[hl]at this;rw[Option.some.inj this];exact Tu _ _
 have hkl:(k:Int)∉l:=λh=>by
  obtain⟨j,hj⟩:=tY.1 h;exact(Tf hg k l hl j k hj).2.2.1 rfl
 refine II (Iw ?_) λc=>?_
 ·rw[iP];exact⟨hlt.imp (λh=>by omega),by simp,λa ha b hb=>by rw[bI.1 hb];exact λe=>hkl (e▸ha)⟩
 ·rw[uF,dZ,bI];simp only[uT,wR];constructor
  ·rintro(h|rfl)
   ·exact⟨hls c h,.inr h⟩
   ·exact⟨by omega,.inl rfl⟩
  ·rintro⟨_,h|h⟩
   ·exact .inr h
   ·exact .inl h
