/-
  Puzzles, in plain lists: clues that are right.
-/
import Derived.Test.YtoohgkkmdnbnfaaGreatDoorPlainBE
import Derived.Test.YtoohgkkmdnbnfaaGreatDoorPlainAE
set_option linter.all false
namespace Kd
open Go Go.Ideal Canon
def kI:Enc Clue:=⟨3,Value,λg v=>[.int .i64 g.aJ,.int .i64 g.at_,v],λg v=>[ai ae v g.values],λ_ _=>rfl⟩
abbrev FE(g:Clue)(v:Value):Value:=.agg ⟨[.int .i64 g.aJ,.int .i64 g.at_,v]⟩
def qo:List Int->Int
 |[]=>0
 |a::l=>if a≠0 then a else qo l
def eP(a b:Clue):Int:=qo [fO a.aJ b.aJ,fO a.at_ b.at_]
theorem aai(a b:Clue):eP a b=iO fO [a.aJ,a.at_] [b.aJ,b.at_]:=by
 unfold eP;simp only[qo,iO]
theorem sG{a b:Clue}:eP a b<0↔a.aJ<b.aJ\/(a.aJ=b.aJ/\a.at_<b.at_):=by
 unfold eP fO;simp only[qo];split<;>split at *<;>(try split at *)<;>(try split at *)<;>(try split at *)<;>omega
theorem C8{a b c:Clue}(h1:eP a b<0)(h2:eP b c<0):eP a c<0:=by
 rw[sG]at *;omega
def ww(k:bP)(g:Clue):Prop:=∃(c:ji) (l:List (List Int)),0<=g.aJ/\k.decl.bI[g.aJ.toNat]? =some c/\k.lists[c.family.toNat]? =some l/\0<=g.at_/\g.at_<l.length/\
 ((c.type=1/\g.values.length=1/\∀x∈g.values,0<=x/\x<=(k.decl.symbols.length:Int) - 1)\/(c.type=2/\g.values.length=1/\∀x∈g.values,c.lo<=x/\x<=c.hi)\/
   (c.type≠1/\c.type≠2/\g.values.length<=8/\∀x∈g.values,1<=x/\x<=256))
structure j5(k:bP)(p:List Clue):Prop where
 len:p.length<=512
 right:∀g∈p,ww k g
 sorted:∀(i:Nat) a b,p[i]? =some a->p[i+1]? =some b->eP a b<0
def JX(k:bP):Prop:=∀c∈k.decl.bI,0<=c.family/\c.family<k.lists.length
end Kd
namespace Kd
open Go Go.Ideal Canon
def Ri(k:bP)(i:Int):Int:=match k.decl.bI[i.toNat]? with|some c=>c.family|none=>0
def mi(k:bP)(g:Clue):List Int:=(k.lists.getD (Ri k g.aJ).toNat []).getD g.at_.toNat []
def FH(k:bP)(p:List Clue)(r:aW):List (List Int×List Int):=
 if r.aJ<0 then(k.lists.getD r.family.toNat []).map λl=>(l,[r.n])else(p.filter λg=>decide (g.aJ=r.aJ)).map λg=>(mi k g,g.values)
theorem uq{α:Type}{l:List α}{n:Nat}{x d:α}(h:l[n]? =some x):l.getD n d=x:=by simp[List.getD,h]
theorem ww.cells{k:bP}{g:Clue}(h:ww k g):∃(c:ji) (l:List (List Int)) (ps:List Int),k.decl.bI[g.aJ.toNat]? =some c/\k.lists[c.family.toNat]? =some l/\l[g.at_.toNat]? =some ps/\0<=g.aJ/\0<=g.at_/\g.at_<l.length/\mi k g=ps:=by
 obtain⟨c,l,h1,h2,h3,h4,h5,_⟩:=h;have h6:l[g.at_.toNat]? =some (l[g.at_.toNat]'(by omega)):=dz _;refine⟨c,l,_,h2,h3,h6,h1,h4,h5,?_⟩;unfold mi Ri;rw[h2];dsimp only;rw[uq h3,uq h6]
end Kd
namespace Kd
open Go Go.Ideal Canon
end Kd
namespace Kd
open Go Go.Ideal
def wy(n:Nat)(l:List Int):Prop:=l.length<=4096/\∀c∈l,0<=c/\c<(n:Int)
theorem JY{g:bO}:∀p∈aU g,0<=p.1/\p.1<(g.cells.length:Int):=by
 intro p hp;obtain⟨k,hk⟩:=wR.1 hp;have hkl:=(bA.1 hk).1;rw[nW]at hkl;have:=AQ hk;omega
theorem aaj(kf:Int×Int->Int×Bool)(n:Nat):∀ps:List (Int×(Int×Int)),ps.length=n->∀a,∀c∈(bW a (jm kf ps)).getD [],∃p∈ps,p.1=c:=by
 induction n with
 |zero=>
  intro ps h a c hc;rw[kW.1 h]at hc;have hc:c∈([]:List Int):=hc;cases hc
 |succ n ih=>
  intro ps h a c hc;obtain⟨qs,p,rfl⟩:∃qs p,ps=qs++[p]:=⟨ps.dropLast,ps.getLast (by intro e;rw[e]at h;cases h),(Bv _).symm⟩
  have hq:qs.length=n:=by simpa using h
  have hih:∀a,∀c∈(bW a (jm kf qs)).getD [],∃p'∈qs++[p],p'.1=c:=λa c hc=>by
   obtain⟨q,h1,h2⟩:=ih qs hq a c hc;exact⟨q,jO _ h1,h2⟩
  rw[Fx]at hc;unfold uz at hc;cases hb:(kf p.2).2 with
  |false=>
   rw[hb]at hc;exact hih a c hc
  |true=>
   rw[hb]at hc;have hc:c∈(bW a (upd (kf p.2).1 ((bW (kf p.2).1 (jm kf qs)).getD []++[p.1]) (jm kf qs))).getD []:=hc;rw[wm]at hc;by_cases e:a=(kf p.2).1
   ·rw[if_pos e,sQ]at hc;rcases eZ.1 hc with hc|hc
    ·exact hih _ c hc
    ·exact⟨p,by simp,(bC.1 hc).symm⟩
   ·rw[if_neg e]at hc;exact hih a c hc
theorem C9{g:bO}(hg:gH g)(kf:Int×Int->Int×Bool):∀l∈jN g kf,wy g.cells.length l:=by
 intro l hl;have hlen:=(Fy hg kf).2 l hl;refine⟨by omega,λc hc=>?_⟩;unfold jN at hl;obtain⟨n,_,rfl⟩:=ed.1 hl;obtain⟨p,hp,rfl⟩:=aaj kf _ (aU g) rfl n c hc;exact JY p hp
theorem Rj{a b:List (List Int)}{l:List Int}(h:l∈nu a b):l∈a\/l∈b:=by
 unfold nu at h;induction b generalizing a with
 |nil=>exact .inl h
 |cons x b ih=>
  rw[rE]at h;rcases ih h with h|h
  ·unfold AU at h;split at h
   ·exact .inl h
   ·rcases eZ.1 h with h|h
    ·exact .inl h
    ·exact .inr (by rw[bC.1 h];simp)
  ·exact .inr (bB _ h)
theorem Rk{o:Option Value}{n:Int}(h:numOf o=some n):o=some (.int .i64 n):=by
 unfold numOf at h;split at h
 ·cases h;rfl
 ·cases h
theorem aak{g:bO}{p:Int×(Int×Int)}:wy g.cells.length (j3 g p):=by
 unfold j3;refine⟨?_,λc hc=>?_⟩
 ·have h1:(bY (eF (dI (aU g)) p.2 (dB.take (cZ g)))).length=(eF (dI (aU g)) p.2 (dB.take (cZ g))).length:=(wS _ _).length_eq;have h2:=Fu (dI (aU g)) p.2 (dB.take (cZ g));have h3:=yx g;rw[jE]at h2;omega
 ·rw[FB]at hc;unfold eF at hc;obtain⟨d,_,hd⟩:=DL.1 hc;obtain⟨c',h1,q,hq,h2⟩:=Q6 _ _ (Rk hd);injection h1 with _ h1;rw[h1,<- h2];exact JY q hq
theorem JZ{g:bO}:∀l∈dY g,wy g.cells.length l:=by
 intro l hl;obtain⟨p,_,rfl⟩:=ed.1 hl;exact aak
theorem aal(l:List Int):(bY l).length=l.length:=(wS l _).length_eq
theorem aam{g:bO}(hg:gH g)(k:Int):∀l∈fJ g k,wy g.cells.length l:=by
 have hlen:=hg.len;have hnl:=yz g;have hnm:=JU (g:=g);intro l hl;unfold fJ at hl;split at hl
 ·unfold lX at hl;obtain⟨i,hi,rfl⟩:=ed.1 hl;have:=yQ.1 hi;exact⟨by simp,λc hc=>by rw[bC.1 hc];omega⟩
 split at hl
 ·exact C9 hg _ l hl
 split at hl
 ·exact C9 hg _ l hl
 split at hl
 ·unfold qZ at hl;split at hl
  ·exact C9 hg _ l hl
  split at hl
  ·rcases Rj hl with hl|hl
   ·exact C9 hg _ l hl
   ·exact C9 hg _ l hl
  ·cases hl
 split at hl
 ·exact JZ l hl
 split at hl
 ·unfold mJ at hl;obtain⟨⟨x,i⟩,hx,rfl⟩:=ed.1 hl;have hx:=wT.1 hx;have hxm:=bG hx;have hi:=(bA.1 hx).1;have h6:=hnm x hxm;refine⟨by rw[aal];simp;omega,λc hc=>?_⟩;rw[FB]at hc;rcases eZ.1 hc with hc|hc
  ·exact(JZ x hxm).2 c hc
  ·rw[bC.1 hc];dsimp only;omega
 split at hl
 ·unfold jo at hl;obtain⟨⟨x,i⟩,hx,hl⟩:=List.mem_flatMap.1 hl;have hx:=wT.1 hx;have hxm:=bG hx;have hi:=(bA.1 hx).1;unfold kS at hl;obtain⟨j,hj,rfl⟩:=ed.1 hl;have hj:=(Br.1 hj).1;refine⟨by simp,λc hc=>?_⟩;simp only[cK,DK,or_false]at hc;rcases hc with rfl|rfl
  ·omega
  ·exact(JZ x hxm).2 _ hj
 ·rw[bC.1 hl];refine⟨by rw[FC];omega,λc hc=>?_⟩;unfold upTo' at hc;obtain⟨i,hi,rfl⟩:=ed.1 hc;have:=yQ.1 hi;omega
theorem aan{g:bO}(hg:gH g){rs:List (List Int)}(hr:yA g rs):∀l∈gI g rs,wy g.cells.length l:=by
 intro l hl;obtain⟨ps,hps,rfl⟩:=ed.1 hl;have hP:=hr.all ps hps;have h1:=JW hP.mem hP.nd;have h2:=hg.len;refine⟨by unfold gT;rw[bT];omega,λc hc=>?_⟩;obtain⟨p,hp,rfl⟩:=ed.1 hc;have:=JV (hP.mem p hp);omega
theorem aao{d:bR}(hg:gH (aX d))(hr:∀r∈d.regions,yA (aX d) r.lists):∀l∈lY d,∀ps∈l,wy (aX d).cells.length ps:=by
 intro l hl ps hps;unfold lY at hl;rcases eZ.1 hl with hl|hl
 ·obtain⟨f,_,rfl⟩:=ed.1 hl;exact aam hg _ ps hps
 ·obtain⟨r,hrm,rfl⟩:=ed.1 hl;exact aan hg (hr r hrm) ps hps
theorem aap{g:bO}(hw:1<=g.w){x y:Int}(hx:0<=x)(hy:0<=y)(h:nV g x=nV g y):x=y:=by
 unfold nV at h;have h1:=congrArg Prod.fst h;have h2:=congrArg Prod.snd h;dsimp only at h1 h2;rw[yU hx,yU hy]at h2;rw[yU hx,yU hy,L6 hx,L6 hy,h2]at h1;have h3:x%g.w=y%g.w:=by
  split at h1<;>omega
 have e1:=L8 x g.w;have e2:=L8 y g.w;rw[h2,h3]at e1;omega
theorem FI{g:bO}(hg:gH g){p q:Int×(Int×Int)}(hp:p∈aU g)(hq:q∈aU g)(h:p.1=q.1\/p.2=q.2):p=q:=by
 obtain⟨k,hk⟩:=wR.1 hp;obtain⟨j,hj⟩:=wR.1 hq;have hkl:=(bA.1 hk).1;have hjl:=(bA.1 hj).1;rw[nW]at hkl hjl;rcases h with h|h
 ·have h1:=AQ hk;have h2:=AQ hj;have:k=j:=by omega
  subst this;rw[hk]at hj;exact Option.some.inj hj
 ·have hx:g.cells[k]? =some g.cells[k]:=dz hkl;have hy:g.cells[j]? =some g.cells[j]:=dz hjl;have hkk:=hk;have hjj:=hj;rw[AO hx]at hk;rw[AO hy]at hj;have hk:=Option.some.inj hk;have hj:=Option.some.inj hj;have hs:nV g g.cells[k]=nV g g.cells[j]:=by rw[<- hk,<- hj]at h;exact h
  have he:=aap (by have:=hg.make.wi;omega) (hg.cell _ (Gl _)).1 (hg.cell _ (Gl _)).1 hs;have qp:g.cells.Pairwise (·<·):=by rw[hg.cells];exact Q5 _ _
  have hkj:k=j:=by
   apply Classical.byContradiction;intro hne;have:=L9.1 qp;rcases Nat.lt_or_gt_of_ne hne with hl|hl
   ·have:=this k j hkl hjl hl;omega
   ·have:=this j k hjl hkl hl;omega
  subst hkj;rw[hkk]at hjj;exact Option.some.inj hjj
theorem aaq(n:Nat):∀xs:List (Int×(Int×Int)),xs.length=n->(∀p∈xs,∀q∈xs,p.2=q.2->p=q)->∀p∈xs,bW p.2 (dI xs)=some (.int .i64 p.1):=by
 induction n with
 |zero=>intro xs h _ p hp;rw[kW.1 h]at hp;cases hp
 |succ n ih=>
  intro xs h hi p hp;obtain⟨ys,q,rfl⟩:∃ys q,xs=ys++[q]:=⟨xs.dropLast,xs.getLast (by intro e;rw[e]at h;cases h),(Bv _).symm⟩
  rw[JO,wm];by_cases e:p.2=q.2
  ·have:=hi p hp q (by simp) e;subst this;rw[if_pos rfl]
  ·rw[if_neg e];refine ih ys (by simpa using h) (λa ha b hb=>hi a (jO _ ha) b (jO _ hb)) p ?_;rcases eZ.1 hp with hp|hp
   ·exact hp
   ·rw[bC.1 hp]at e;exact absurd rfl e
theorem aar(n:Nat):∀xs:List (Int×(Int×Int)),xs.length=n->∀a v,bW a (dI xs)=some v->∃p∈xs,p.2=a/\v=.int .i64 p.1:=by
 induction n with
 |zero=>
  intro xs h a v hv;rw[kW.1 h]at hv;cases hv
 |succ n ih=>
  intro xs h a v hv;obtain⟨ys,q,rfl⟩:∃ys q,xs=ys++[q]:=⟨xs.dropLast,xs.getLast (by intro e;rw[e]at h;cases h),(Bv _).symm⟩
  rw[JO,wm]at hv;by_cases e:a=q.2
  ·rw[if_pos e]at hv;exact⟨q,by simp,e.symm,(Option.some.inj hv).symm⟩
  ·rw[if_neg e]at hv;obtain⟨p,h1,h2⟩:=ih ys (by simpa using h) a v hv;exact⟨p,jO _ h1,h2⟩
theorem FJ{g:bO}(hg:gH g){s:Int×Int}{d:Int×Int}{n:Int}:numOf (bW (s.1+d.1,s.2+d.2) (dI (aU g)))=some n↔∃q∈aU g,q.2=(s.1+d.1,s.2+d.2)/\q.1=n:=by
 constructor
 ·intro h;obtain⟨q,hq,h1,h2⟩:=aar _ (aU g) rfl _ _ (Rk h);injection h2 with _ h2;exact⟨q,hq,h1,h2.symm⟩
 ·rintro⟨q,hq,h1,h2⟩;rw[<- h1,aaq _ (aU g) rfl (λa ha b hb e=>FI hg ha hb (.inr e)) q hq,<- h2];rfl
theorem Rl{g:bO}(hg:gH g){p:Int×(Int×Int)}{n:Int}:n∈j3 g p↔∃d∈dB.take (cZ g),∃q∈aU g,q.2=(p.2.1+d.1,p.2.2+d.2)/\q.1=n:=by
 unfold j3;rw[FB];unfold eF;rw[DL];constructor
 ·rintro⟨d,hd,h⟩;exact⟨d,hd,(FJ hg).1 h⟩
 ·rintro⟨d,hd,h⟩;exact⟨d,hd,(FJ hg).2 h⟩
theorem Rm(g:bO):cZ g=4\/cZ g=6:=by unfold cZ;split<;>simp
theorem aas{m:Nat}(hm:m=4\/m=6):∀d∈dB.take m,(-d.1, -d.2)∈dB.take m:=by
 rcases hm with rfl|rfl<;>decide
theorem aat{m:Nat}:∀d∈dB.take m,¬(d.1=0/\d.2=0):=by
 intro d hd;have:=LD hd;revert d;have:∀d∈dB,¬(d.1=0/\d.2=0):=by decide
 intro d _ hd;exact this d hd
theorem aau{m:Nat}(hm:m=4\/m=6):(dB.take m).Nodup:=by
 rcases hm with rfl|rfl<;>decide
theorem aav(l:List Int):(bY l).Pairwise (λx y=>x<=y):=by
 have:=LY (le:=λx y:Int=>decide (x<=y)) (λa b c h1 h2=>by simp at h1 h2⊢;omega) (λa b=>by simp;omega) l;exact this.imp (λh=>by simpa using h)
theorem Rn{l:List Int}(h:l.Nodup):(bY l).Pairwise (·<·):=by
 have h1:=aav l;have h2:(bY l).Nodup:=(wS l _).symm.nodup h;have h3:(bY l).Pairwise (λx y=>x<=y/\x≠y):=List.Pairwise.and h1 h2;exact h3.imp (λh=>by omega)
theorem Ro{g:bO}(hg:gH g)(p:Int×(Int×Int)):(j3 g p).Pairwise (·<·):=by
 unfold j3;refine Rn ?_;unfold eF;refine List.Pairwise.filterMap _ ?_ (aau (Rm g));intro d1 d2 hne b hb b' hb' e;subst e;obtain⟨q1,h1,h2,h3⟩:=(FJ hg).1 hb;obtain⟨q2,k1,k2,k3⟩:=(FJ hg).1 hb';have:=FI hg h1 k1 (.inl (by rw[h3,k3]));subst this;rw[h2]at k2;apply hne;have e1:=congrArg Prod.fst k2;have e2:=congrArg Prod.snd k2;dsimp only at e1 e2;exact Prod.ext (by omega) (by omega)
theorem Rp{g:bO}(hg:gH g)(i:Nat)(l:List Int)(hl:(dY g)[i]? =some l)(k:Nat)(n:Int)(hn:l[k]? =some n):
 0<=n/\n<(dY g).length/\n≠i/\(∀m,0<k->l[k - 1]? =some m->m<n)/\∀l',(dY g)[n.toNat]? =some l'->(i:Int)∈l':=by
 have hnm:=yz g;unfold dY at hl;rw[eX]at hl;obtain⟨p,hp,rfl⟩:=kv.1 hl;have hp1:=AQ hp;have hpm:=bG hp;obtain⟨d,hd,q,hq,hq2,hq1⟩:=(Rl hg).1 (bG hn);have hqi:=JY q hq;refine⟨by omega,by omega,λe=>?_,λm hk hm=>?_,λl' hl'=>?_⟩
 ·have:q=p:=FI hg hq hpm (.inl (by omega));subst this;have e1:=congrArg Prod.fst hq2;have e2:=congrArg Prod.snd hq2;dsimp only at e1 e2;exact aat d hd ⟨by omega,by omega⟩
 ·have hlt:=Ro hg p;obtain⟨a1,a2⟩:=bA.1 hm;obtain⟨b1,b2⟩:=bA.1 hn;have:=L9.1 hlt (k - 1) k a1 b1 (by omega);rw[a2,b2]at this;exact this
 ·unfold dY at hl';rw[eX]at hl';obtain⟨q',hq',rfl⟩:=kv.1 hl';have h1:=AQ hq';have:q'=q:=FI hg (bG hq') hq (.inl (by omega));subst this;rw[Rl hg];refine⟨(-d.1, -d.2),aas (Rm g) d hd,p,hpm,?_,hp1⟩;rw[hq2];dsimp only;exact Prod.ext (by dsimp only;omega) (by dsimp only;omega)
end Kd
namespace Kd
open Go Go.Ideal Canon Gph
def ry(r:aW)(vals:List Int):Int:=if r.eU=⟨⟨[]⟩⟩then r.n else vals.getD 0 0
def jb(r:aW)(vals:List Int)(most:Int):Int×Int:=if r.op=2 then(0,ry r vals)else if r.op=3 then(ry r vals,max (ry r vals) most)else(ry r vals,ry r vals)
def fA(r:aW):Int:=if r.kind=6\/r.kind=7\/r.kind=8 then 6 else if r.kind=9\/r.kind=10 then 7 else if r.kind=11 then 0 else r.family
def iG(r:aW):Nat:=if r.kind=1\/r.kind=4 then 2 else 0
def oW(k:Int):Int:=if k=1 then 1 else if k=4 then 4 else if k=6 then 1 else if k=7 then 6 else if k=8 then 7 else if k=9 then 8 else 9
def gJ(r:aW)(cells vals:List Int):iU:=
 if r.kind=2 then⟨2,cells,r.set,0,(jb r vals cells.length).1,(jb r vals cells.length).2,[],0,0⟩
 else if r.kind=3 then⟨3,cells,0,0,(jb r vals 65536).1,(jb r vals 65536).2,[],0,0⟩
 else if r.kind=5 then⟨5,cells,r.set,0,0,0,vals,0,0⟩
 else if r.kind=11 then⟨2,cells,((1<<<(vals.getD 0 0).toNat:Nat):Int),0,1,1,[],0,0⟩
 else⟨oW r.kind,cells,r.set,r.other,r.n,0,[],0,0⟩
end Kd
namespace Kd
open Go Go.Ideal Canon Gph
def uA(p:List Clue)(c:Int)(at_:Int):Option (List Int):=(p.find? λg=>decide (g.aJ=c/\g.at_=at_)).map (·.values)
def sH(p:List Clue)(r:aW)(x:List Int×Nat):Option (Nat×List Int×List Int):=if r.aJ<0 then some (x.2,x.1,[])else(uA p r.aJ (x.2:Int)).map λv=>(x.2,x.1,v)
def jq(p:List Clue)(r:aW)(ls:List (List Int)):List (Nat×List Int×List Int):=ls.zipIdx.filterMap (sH p r)
theorem aaw{p:List Clue}{r:aW}{ls:List (List Int)}{j:Nat}{l:List Int}(h:ls[j]? =some l):jq p r (ls.take (j+1))=jq p r (ls.take j)++(sH p r (l,j)).toList:=by
 have hk:=(bA.1 h).1;unfold jq;rw[j4 h,Bt,LZ,jE,yT (by omega)];congr 1;rw[List.zipIdx_cons,List.zipIdx_nil,eG,List.filterMap_cons,List.filterMap_nil];cases sH p r (l,j)<;>rfl
abbrev LA:=Nat×(List Int×Value)×(List Int×Value)
def lZ(x:LA):Nat×List Int×List Int:=(x.1,x.2.1.1,x.2.2.1)
def Da(x:LA):List Value:=[.int .i64 (x.1:Int),.agg ⟨[x.2.1.2,x.2.2.2]⟩]
def yB(x:LA):List aB:=[ai ae x.2.1.2 x.2.1.1,ai ae x.2.2.2 x.2.2.1]
def wz(l:List (Nat×List Int×List Int)):List LA:=l.map λy=>(y.1,(y.2.1,.nilFunc),(y.2.2,.nilFunc))
theorem Rq(l:List (Nat×List Int×List Int)):(wz l).map lZ=l:=by
 unfold wz;rw[sU];have:lZ∘(λy:Nat×List Int×List Int=>((y.1,(y.2.1,Value.nilFunc),(y.2.2,Value.nilFunc)):LA))=id:=rfl;rw[this,List.map_id]
end Kd
namespace Kd
open Go Go.Ideal Canon Gph
theorem aax(kf:Int×Int->Int×Bool)(n:Nat):∀ps:List (Int×(Int×Int)),ps.length=n->∀a,((bW a (jm kf ps)).getD []).Sublist (ps.map (·.1)):=by
 induction n with
 |zero=>
  intro ps h a;rw[kW.1 h];exact List.Sublist.refl _
 |succ n ih=>
  intro ps h a;obtain⟨qs,p,rfl⟩:∃qs p,ps=qs++[p]:=⟨ps.dropLast,ps.getLast (by intro e;rw[e]at h;cases h),(Bv _).symm⟩
  have hq:qs.length=n:=by simpa using h
  have ih:=ih qs hq;rw[dM,Fx];unfold uz;cases hb:(kf p.2).2 with
  |false=>exact(ih a).trans (List.sublist_append_left _ _)
  |true=>
   show((bW a (upd (kf p.2).1 ((bW (kf p.2).1 (jm kf qs)).getD []++[p.1]) (jm kf qs))).getD []).Sublist _;rw[wm];by_cases e:a=(kf p.2).1
   ·rw[if_pos e,sQ];exact(ih _).append (List.Sublist.refl _)
   ·rw[if_neg e];exact(ih a).trans (List.sublist_append_left _ _)
theorem aay{g:bO}:(aU g).map (·.1)=upTo' g.cells.length:=by
 apply jD;intro i;unfold upTo';rw[eX,eX];by_cases h:i<g.cells.length
 ·rw[AO (dz h),DJ h];rfl
 ·rw[gy (by rw[nW];omega),gy (by rw[DR];omega)];rfl
theorem J2(n:Nat):(upTo' n).Nodup:=by
 unfold upTo';refine List.Pairwise.map _ (λa b h=>?_) List.nodup_range;intro e;apply h;omega
theorem aaz{n i:Nat}{x:Int}(h:(upTo' n)[i]? =some x):x=i:=by
 unfold upTo' at h;rw[eX]at h;obtain⟨j,hj,rfl⟩:=kv.1 h;have:=bA.1 hj;obtain⟨h1,h2⟩:=this;rw[List.getElem_range]at h2;omega
theorem Db{g:bO}(kf:Int×Int->Int×Bool):∀l∈jN g kf,l.Nodup:=by
 intro l hl;unfold jN at hl;obtain⟨n,_,rfl⟩:=ed.1 hl;have:=aax kf _ (aU g) rfl n;rw[aay]at this;exact this.nodup (J2 _)
theorem Rs{g:bO}(hg:gH g)(p:Int×(Int×Int)):(j3 g p).Nodup:=(Ro hg p).imp (λh=>by omega)
theorem aaA{l:List Int}(h:l.Nodup):(bY l).Nodup:=(Rn h).imp (λh=>by omega)
theorem Rt{aK:List (List Int)}{l:List Int}(h:l∈jo aK):∃(i:Nat) (x:List Int) (j:Int),aK[i]? =some x/\j∈x/\(i:Int)<j/\l=[(i:Int),j]:=by
 unfold jo at h;obtain⟨⟨x,i⟩,hx,hl⟩:=List.mem_flatMap.1 h;unfold kS at hl;obtain⟨j,hj,rfl⟩:=ed.1 hl;obtain⟨h1,h2⟩:=Br.1 hj;exact⟨i,x,j,wT.1 hx,h1,iJ h2,rfl⟩
theorem aaB{g:bO}(hg:gH g)(k:Int):∀l∈fJ g k,l.Nodup:=by
 intro l hl;unfold fJ at hl;split at hl
 ·unfold lX at hl;obtain⟨i,hi,rfl⟩:=ed.1 hl;simp
 split at hl
 ·exact Db _ l hl
 split at hl
 ·exact Db _ l hl
 split at hl
 ·unfold qZ at hl;split at hl
  ·exact Db _ l hl
  split at hl
  ·rcases Rj hl with hl|hl
   ·exact Db _ l hl
   ·exact Db _ l hl
  ·cases hl
 split at hl
 ·unfold dY at hl;obtain⟨p,_,rfl⟩:=ed.1 hl;exact Rs hg p
 split at hl
 ·unfold mJ at hl;obtain⟨⟨x,i⟩,hx,rfl⟩:=ed.1 hl;have hx:=wT.1 hx;have hxm:=bG hx;refine aaA ?_;rw[gM];refine⟨?_,by simp,λa ha b hb e=>?_⟩
  ·unfold dY at hxm;obtain⟨p,_,rfl⟩:=ed.1 hxm;exact Rs hg p
  ·rw[bC.1 hb]at e;obtain⟨j,hj⟩:=ku ha;exact(Rp hg i x hx j a hj).2.2.1 e
 split at hl
 ·obtain⟨i,x,j,h1,h2,h3,rfl⟩:=Rt hl;simp only[uO,bC,DK,not_false_iff,uS,uN];omega
 ·rw[bC.1 hl];exact J2 _
theorem aaC{d:bR}(hg:gH (aX d))(hr:∀r∈d.regions,yA (aX d) r.lists):∀l∈lY d,∀ps∈l,ps.Nodup:=by
 intro l hl ps hps;unfold lY at hl;rcases eZ.1 hl with hl|hl
 ·obtain⟨f,_,rfl⟩:=ed.1 hl;exact aaB hg _ ps hps
 ·obtain⟨r,hrm,rfl⟩:=ed.1 hl;obtain⟨q,hq,rfl⟩:=ed.1 hps;exact((hr r hrm).all q hq).nd
end Kd
namespace Kd
open Go Go.Ideal Canon Gph
def AV(k:bP)(p:List Clue)(r:aW):List (Nat×List Int×List Int):=(jq p r (k.lists.getD (fA r).toNat [])).filter λx=>decide (iG r<=x.2.1.length)
def jc(r:aW)(i:Nat)(x:Nat×List Int×List Int):iU:={gJ r x.2.1 x.2.2 with rule:=(i:Int),at_:=(x.1:Int)}
def uB(k:bP)(p:List Clue)(r:aW)(i:Nat):List iU:=(AV k p r).map (jc r i)
def lC(k:bP)(p:List Clue):List iU:=k.decl.rules.zipIdx.flatMap λx=>uB k p x.1 x.2
theorem FK{k:bP}{p:List Clue}(h:j5 k p):∀(d i:Nat) a b,p[i]? =some a->p[i+1+d]? =some b->eP a b<0
 |0,i,a,b,ha,hb=>h.sorted i a b ha hb
 |d+1,i,a,b,ha,hb=>by
  have hlt:=(bA.1 hb).1;have hc:p[i+1+d]? =some (p[i+1+d]'(by omega)):=dz _;exact C8 (FK h d i a _ ha hc) (h.sorted (i+1+d) _ b hc hb)
theorem aaD{k:bP}{p:List Clue}(h:j5 k p){a b:Clue}(ha:a∈p)(hb:b∈p)(h1:a.aJ=b.aJ)(h2:a.at_=b.at_):a=b:=by
 obtain⟨i,hi⟩:=ku ha;obtain⟨j,hj⟩:=ku hb;rcases Nat.lt_trichotomy i j with hl|hl|hl
 ·have:=sG.1 (FK h (j - (i+1)) i a b hi (by rw[show i+1+(j - (i+1))=j by omega];exact hj));omega
 ·subst hl;rw[hi]at hj;exact Option.some.inj hj
 ·have:=sG.1 (FK h (i - (j+1)) j b a hj (by rw[show j+1+(i - (j+1))=i by omega];exact hi));omega
theorem aaE{k:bP}{p:List Clue}(h:j5 k p){c a:Int}{v:List Int}:uA p c a=some v↔∃g∈p,g.aJ=c/\g.at_=a/\g.values=v:=by
 unfold uA;constructor
 ·intro hf;obtain⟨g,hg,rfl⟩:=kv.1 hf;have h1':=List.find?_some hg;have h1:g.aJ=c/\g.at_=a:=iJ h1';exact⟨g,LX hg,h1.1,h1.2,rfl⟩
 ·rintro⟨g,hg,h1,h2,rfl⟩;cases hf:p.find? (λg=>decide (g.aJ=c/\g.at_=a))with
  |none=>exact absurd (dU ⟨h1,h2⟩) (LW.1 hf g hg)
  |some g2=>
   have h3':=List.find?_some hf;have h3:g2.aJ=c/\g2.at_=a:=iJ h3';rw[aaD h hg (LX hf) (by omega) (by omega)];rfl
theorem Ru{p:List Clue}{r:aW}{ls:List (List Int)}{y:Nat×List Int×List Int}:y∈jq p r ls↔ls[y.1]? =some y.2.1/\((r.aJ<0/\y.2.2=[])\/(0<=r.aJ/\uA p r.aJ (y.1:Int)=some y.2.2)):=by
 obtain⟨j,l,v⟩:=y;unfold jq;rw[DL];constructor
 ·rintro⟨⟨x,i⟩,hx,h⟩;have hx:=wT.1 hx;unfold sH at h;split at h
  ·rename_i hc;cases h;exact⟨hx,.inl ⟨hc,rfl⟩⟩
  ·rename_i hc;obtain⟨w,hw,e⟩:=kv.1 h;cases e;exact⟨hx,.inr ⟨by omega,hw⟩⟩
 ·rintro⟨h1,h2⟩;refine⟨(l,j),wT.2 h1,?_⟩;unfold sH;rcases h2 with⟨hc,e⟩|⟨hc,e⟩
  ·rw[if_pos hc];dsimp only at e;rw[e]
  ·rw[if_neg (by omega)];dsimp only at e⊢;rw[e];rfl
end Kd
namespace Kd
open Go Go.Ideal
theorem Rv:∀{l m:List Int},l.Nodup->(∀x∈l,x∈m)->l.length<=m.length
 |[],m,_,_=>dD _
 |a::l,m,hd,hs=>by
  have ha:=hs a (bF ..);have h1:=List.length_erase_of_mem ha;have hp:0<m.length:=List.length_pos_of_mem ha;have:=Rv (l:=l) (m:=m.erase a) (uO.1 hd).2 (λx hx=>by
   have hne:x≠a:=λe=>(uO.1 hd).1 (e▸hx);exact(List.mem_erase_of_ne hne).2 (hs x (bB _ hx)))
  rw[nE];omega
theorem aaF{g:bO}(hg:gH g):0<g.cells.length:=by
 apply Classical.byContradiction;intro h0;have he:g.cells=[]:=kW.1 (by omega);rw[hg.cells]at he;unfold nU iF at he;have hw:=AL hg.make.wi hg.make.he;have hlen:=hg.make.len;have:=Rv (l:=upTo' (g.w*g.h).toNat) (m:=g.holes) (J2 _) (λx hx=>by
  have hx:x∈(List.range (g.w*g.h).toNat).map λi:Nat=>(i:Int):=hx;have:=List.filter_eq_nil_iff.1 he x hx;simpa using this)
 rw[FC]at this;omega
end Kd
namespace Kd
open Go Go.Ideal Canon Gph
theorem aaG{g:bO}(hg:gH g)(k:Int):(fJ g k).length<=2048:=by
 have hl:=hg.len;have hn:=yz g;have hL:=λkf=>Fy hg kf;unfold fJ;split
 ·unfold lX;rw[bT,DR];omega
 split
 ·have:=(hL (λs=>(s.2,true))).1;omega
 split
 ·have:=(hL (λs=>(s.1,true))).1;omega
 split
 ·unfold qZ;split
  ·have:=(hL (λs=>(s.1+s.2,true))).1;omega
  split
  ·have h1:=hL (λs=>(0,decide (s.1=s.2)));have h2:=hL (λs=>(0,decide (s.1+s.2=g.w - 1)));have:=(JR h1.2 h2.2 (jN g (λs=>(0,decide (s.1+s.2=g.w - 1)))).length).1;rw[eB]at this;omega
  ·simp
 split
 ·omega
 split
 ·unfold mJ;rw[bT,List.length_zipIdx];omega
 split
 ·have:=JS (aK:=dY g) JU (dY g).length (bn _);rw[eB]at this;omega
 ·simp
theorem aaH{d:bR}(hg:gH (aX d))(hr:∀r∈d.regions,yA (aX d) r.lists):∀l∈lY d,l.length<=2048:=by
 intro l hl;unfold lY at hl;rcases eZ.1 hl with hl|hl
 ·obtain⟨f,_,rfl⟩:=ed.1 hl;exact aaG hg _
 ·obtain⟨r,hrm,rfl⟩:=ed.1 hl;have:=(hr r hrm).len;unfold gI;rw[bT];omega
def j6(k:bP)(p:List Clue)(j:Nat):List iU:=(k.decl.rules.take j).zipIdx.flatMap λx=>uB k p x.1 x.2
theorem aaI{k:bP}{p:List Clue}:j6 k p k.decl.rules.length=lC k p:=by unfold j6 lC;rw[eB]
theorem J3{k:bP}{p:List Clue}{j:Nat}{r:aW}(h:k.decl.rules[j]? =some r):j6 k p (j+1)=j6 k p j++uB k p r j:=by
 have hk:=(bA.1 h).1;unfold j6;rw[j4 h,Bt,List.flatMap_append,jE,yT (by omega)];simp
theorem J4{p:List Clue}{r:aW}{ls:List (List Int)}:(jq p r ls).length<=ls.length:=by
 unfold jq;exact lF (TY _ _) (by rw[List.length_zipIdx];exact bn _)
theorem aaJ{k:bP}{p:List Clue}{r:aW}{j:Nat}(hl:∀l∈k.lists,l.length<=2048):(uB k p r j).length<=2048:=by
 unfold uB AV;rw[bT];refine lF (GD _ _) (lF J4 ?_);rw[List.getD];cases h:k.lists[(fA r).toNat]? with
 |none=>simp
 |some l=>exact hl l (bG h)
theorem Rw{k:bP}{p:List Clue}(hl:∀l∈k.lists,l.length<=2048):∀j,j<=k.decl.rules.length->(j6 k p j).length<=2048*j
 |0,_=>dD _
 |j+1,hj=>by
  have:=Rw (p:=p) hl j (by omega);rw[J3 (dz (by omega)),fK];have:=aaJ (p:=p) (r:=k.decl.rules[j]) (j:=j) hl;omega
end Kd
namespace Kd
open Canon
theorem FL{a b:Clue}:eP a b=0↔a.aJ=b.aJ/\a.at_=b.at_:=by
 unfold eP fO;simp only[qo];split<;>split at *<;>(try split at *)<;>(try split at *)<;>(try split at *)<;>omega
theorem aaK(a b:Clue):qU a b=if eP a b≠0 then eP a b else iO fO a.values b.values:=by
 rw[Yb,<- aai]
theorem aaL{a b:Clue}:qU a b<0↔eP a b<0\/(eP a b=0/\iO fO a.values b.values<0):=by
 rw[aaK];split<;>omega
structure wB(xs rs:List Clue):Prop where
 inc:rs.Pairwise λa b=>eP a b<0
 sub:∀r∈rs,r∈xs
 all:∀x∈xs,∃r∈rs,eP x r=0/\¬iO fO x.values r.values<0
theorem aaM{rs:List Clue}(h:rs.Pairwise λa b=>eP a b<0){a b:Clue}(ha:a∈rs)(hb:b∈rs)(he:eP a b=0):a=b:=by
 induction h with
 |nil=>cases ha
 |cons h1 _ ih=>
  rcases cK.1 ha with e1|ha'<;>rcases cK.1 hb with e2|hb'
  ·rw[e1,e2]
  ·have:=h1 b hb';rw[<- e1]at this;omega
  ·have:=h1 a ha';rw[<- e2]at this;rw[FL]at he;rw[sG]at this;omega
  ·exact ih ha' hb'
theorem wB.mem{xs rs rs':List Clue}(h:wB xs rs)(h':wB xs rs'){r:Clue}(hr:r∈rs):r∈rs':=by
 obtain⟨r2,m2,p2,v2⟩:=h'.all r (h.sub r hr);obtain⟨r1,m1,p1,v1⟩:=h.all r2 (h'.sub r2 m2);have h3:eP r r1=0:=by rw[FL]at *;omega
 have:=aaM h.inc hr m1 h3;subst this;have hO:=CB xK;have h4:iO fO r.values r2.values=0:=by
  have:=hO.neg r2.values r.values;have:=hO.neg r.values r2.values;omega
 have h5:=(hO.zero _ _).1 h4;rw[FL]at p2;have:r=r2:=by cases r;cases r2;simp_all
 rw[this];exact m2
theorem wB.self{xs rs:List Clue}(h:wB xs rs):wB rs rs:=⟨h.inc,λ_ h=>h,λx hx=>⟨x,hx,by rw[FL];exact⟨rfl,rfl⟩,by have:=((CB xK).zero x.values x.values).2 rfl;omega⟩⟩
def opn(p:List Clue)(x:Clue):Bool:=match p.getLast? with
 |none=>true
 |some y=>decide (0<eP x y)
theorem J5{p:List Clue}{b x:Clue}:opn (p++[b]) x=decide (0<eP x b):=by
 unfold opn;rw[List.getLast?_append];rfl
theorem FM{a b:Clue}:0<eP a b↔eP b a<0:=by
 rw[sG];unfold eP fO;simp only[qo];split<;>split at *<;>(try split at *)<;>(try split at *)<;>(try split at *)<;>omega
structure yC(l p:List Clue)(n:Nat):Prop where
 inc:p.Pairwise λa b=>eP a b<0
 sub:∀r∈p,r∈l
 done:∀x∈l,opn p x=false->∃r∈p,eP x r=0/\¬iO fO x.values r.values<0
 cnt:l.countP (opn p)+n<=l.length
theorem Rx{α:Type}{p q:α->Bool}:∀{l:List α} {b:α},b∈l->p b=true->q b=false->(∀x,q x=true->p x=true)->l.countP q+1<=l.countP p
 |x::l,b,hb,h1,h2,h3=>by
  rw[List.countP_cons,List.countP_cons];rcases cK.1 hb with rfl|hb
  ·have:=List.countP_mono_left (l:=l) (p:=q) (q:=p) λx _=>h3 x;rw[h1,h2];simp only[if_true];simp;omega
  ·have:=Rx hb h1 h2 h3;by_cases e:q x=true
   ·rw[if_pos e,if_pos (h3 x e)];omega
   ·rw[if_neg e];omega
theorem Ry:∀{p:List Clue} {y:Clue},(p.Pairwise λa b=>eP a b<0)->p.getLast? =some y->∀a∈p,a=y\/eP a y<0
 |[],y,_,h,a,ha=>by cases ha
 |[x],y,_,h,a,ha=>by
  cases h;exact .inl (bC.1 ha)
 |x::z::p,y,hp,h,a,ha=>by
  obtain⟨h1,h2⟩:=Bu.1 hp;have h':(z::p).getLast? =some y:=by rw[List.getLast?_cons_cons]at h;exact h
  rcases cK.1 ha with rfl|ha
  ·exact .inr (h1 y (List.mem_of_getLast? h'))
  ·exact Ry h2 h' a ha
theorem yC.step{l p:List Clue}{n:Nat}{b:Clue}(h:yC l p n)(hb:b∈l)(ho:opn p b=true)(hl:∀x∈l,opn p x=true->¬qU x b<0):yC l (p++[b]) (n+1):=by
 have hab:∀y,p.getLast? =some y->eP y b<0:=λy hy=>by
  unfold opn at ho;rw[hy]at ho;exact FM.1 (iJ ho)
 refine⟨Ma.2 ⟨h.inc,List.pairwise_singleton ..,λa ha b' hb'=>?_⟩,λr hr=>?_,λx hx hc=>?_,?_⟩
 ·rw[bC.1 hb'];cases e:p.getLast? with
  |none=>rw[List.getLast?_eq_none_iff.1 e]at ha;cases ha
  |some y=>
   have h2:=hab y e;rcases Ry h.inc e a ha with rfl|h1
   ·exact h2
   ·exact C8 h1 h2
 ·rcases eZ.1 hr with hr|hr
  ·exact h.sub r hr
  ·rw[bC.1 hr];exact hb
 ·rw[J5]at hc;have hc:=uP hc;cases e:opn p x with
  |true=>
   have h1:=hl x hx e;rw[aaL]at h1;refine⟨b,by simp,?_,?_⟩
   ·by_cases h2:eP x b<0
    ·exact absurd (.inl h2) h1
    ·omega
   ·intro h2;by_cases h3:eP x b<0
    ·exact h1 (.inl h3)
    ·exact h1 (.inr ⟨by omega,h2⟩)
  |false=>
   obtain⟨r,m,q⟩:=h.done x hx e;exact⟨r,jO _ m,q⟩
 ·have:=Rx (p:=opn p) (q:=opn (p++[b])) hb ho (by rw[J5];exact cO (by rw[FM,sG];omega)) (λx hx=>by
   rw[J5]at hx;have hx:=iJ hx;unfold opn;cases e:p.getLast? with
   |none=>rfl
   |some y=>exact dU (FM.2 (C8 (hab y e) (FM.1 hx))))
  have:=h.cnt;omega
theorem yC.stop{l p:List Clue}{n:Nat}(h:yC l p n)(hn:∀x∈l,opn p x=false):wB l p:=⟨h.inc,h.sub,λx hx=>h.done x hx (hn x hx)⟩
theorem yC.full{l p:List Clue}(h:yC l p l.length):wB l p:=h.stop λx hx=>by
 have h1:=h.cnt;have h2:l.countP (opn p)=0:=by omega
 rw[List.countP_eq_zero]at h2;simpa using h2 x hx
end Kd
namespace Kd
open Canon
end Kd
namespace Kd
open Go Go.Ideal Canon Gph
end Kd
namespace Kd
open Go Go.Ideal
structure afa(s w h:Int)(holes:List Int):Prop where
 sh:s=1\/s=2
 wi:1<=w/\w<=16
 he:1<=h/\h<=16
 inc:holes.Pairwise (·<·)
 mem:∀x∈holes,0<=x/\x<w*h
 ne:nU w h holes≠[]
theorem Fa{α β:Type}[DecidableEq α](b:α)(v:β):∀m:List (α×β),(upd b v m).map (·.1)=if b∈m.map (·.1)then m.map (·.1)else m.map (·.1)++[b]
 |[]=>by
  rw[if_neg (by simp)];rfl
 |(a,u)::m=>by
  unfold upd;by_cases e:b=a
  ·rw[if_pos e,if_pos (by rw[e];simp),e];rfl
  ·rw[if_neg e,fG,fG,Fa b v m];by_cases h:b∈m.map (·.1)
   ·rw[if_pos h,if_pos (bB _ h)]
   ·rw[if_neg h,if_neg (by rw[cK,not_or];exact⟨e,h⟩)];rfl
