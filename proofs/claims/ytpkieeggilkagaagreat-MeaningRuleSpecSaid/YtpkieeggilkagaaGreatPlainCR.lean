/-
  Part PlainCR.
-/
import Derived.Test.YtpkieeggilkagaaGreatPlainBR
import Derived.Test.YtpkieeggilkagaaGreatPlainAR
set_option linter.all false
namespace Kd
open Go Go.Ideal Canon
def jh:Enc Clue:=⟨3,Value,λg v=>[.int .i64 g.aB,.int .i64 g.at_,v],λg v=>[ah aa v g.values],λ_ _=>rfl⟩
abbrev CV(g:Clue)(v:Value):Value:=.agg ⟨[.int .i64 g.aB,.int .i64 g.at_,v]⟩
def uQ:List Int->Int
 |[]=>0
 |a::l=>if a≠0 then a else uQ l
def iF(a b:Clue):Int:=uQ [gK a.aB b.aB,gK a.at_ b.at_]
theorem Uh(a b:Clue):iF a b=jb gK [a.aB,a.at_] [b.aB,b.at_]:=by
 unfold iF;simp only[uQ,jb]
theorem zf{a b:Clue}:iF a b<0↔a.aB<b.aB\/(a.aB=b.aB/\a.at_<b.at_):=by
 unfold iF gK;simp only[uQ];split<;>split at *<;>(try split at *)<;>(try split at *)<;>(try split at *)<;>omega
theorem NC{a b c:Clue}(h1:iF a b<0)(h2:iF b c<0):iF a c<0:=by
 rw[zf]at *;omega
def qb(k:bR)(g:Clue):Prop:=∃(c:jo) (l:List (List Int)),0<=g.aB/\k.decl.aM[g.aB.toNat]? =some c/\k.lists[c.family.toNat]? =some l/\0<=g.at_/\g.at_<l.length/\
 ((c.type=1/\g.values.length=1/\∀x∈g.values,0<=x/\x<=(k.decl.symbols.length:Int) - 1)\/(c.type=2/\g.values.length=1/\∀x∈g.values,c.lo<=x/\x<=c.hi)\/
   (c.type≠1/\c.type≠2/\g.values.length<=8/\∀x∈g.values,1<=x/\x<=256))
structure jO(k:bR)(p:List Clue):Prop where
 len:p.length<=512
 right:∀g∈p,qb k g
 sorted:∀(i:Nat) a b,p[i]? =some a->p[i+1]? =some b->iF a b<0
def AJ(k:bR):Prop:=∀c∈k.decl.aM,0<=c.family/\c.family<k.lists.length
end Kd
namespace Kd
open Go Go.Ideal Canon
def Ui(k:bR)(i:Int):Int:=match k.decl.aM[i.toNat]? with|some c=>c.family|none=>0
def kR(k:bR)(g:Clue):List Int:=(k.lists.getD (Ui k g.aB).toNat []).getD g.at_.toNat []
def eY(k:bR)(p:List Clue)(r:bB):List (List Int×List Int):=
 if r.aB<0 then(k.lists.getD r.family.toNat []).map λl=>(l,[r.n])else(p.filter λg=>decide (g.aB=r.aB)).map λg=>(kR k g,g.values)
theorem uO{α:Type}{l:List α}{n:Nat}{x d:α}(h:l[n]? =some x):l.getD n d=x:=by simp[List.getD,h]
theorem qb.cells{k:bR}{g:Clue}(h:qb k g):∃(c:jo) (l:List (List Int)) (ps:List Int),k.decl.aM[g.aB.toNat]? =some c/\k.lists[c.family.toNat]? =some l/\l[g.at_.toNat]? =some ps/\0<=g.aB/\0<=g.at_/\g.at_<l.length/\kR k g=ps:=by
 obtain⟨c,l,h1,h2,h3,h4,h5,_⟩:=h;have h6:l[g.at_.toNat]? =some (l[g.at_.toNat]'(by omega)):=bN _;refine⟨c,l,_,h2,h3,h6,h1,h4,h5,?_⟩;unfold kR Ui;rw[h2];dsimp only;rw[uO h3,uO h6]
abbrev EA:=(List Int×Value)×(List Int×Value)
def mV(x:EA):List Int×List Int:=(x.1.1,x.2.1)
def Jn(x:EA):List Value:=[x.1.2,x.2.2]
def Fv(x:EA):List aL:=[ah aa x.1.2 x.1.1,ah aa x.2.2 x.2.1]
def pad(l:List (List Int×List Int)):List EA:=l.map λy=>((y.1,.nilFunc),(y.2,.nilFunc))
theorem Uj(l:List (List Int×List Int)):(pad l).map mV=l:=by
 unfold pad;rw[DJ];have:mV∘(λy:List Int×List Int=>(((y.1,Value.nilFunc),(y.2,Value.nilFunc)):EA))=id:=rfl;rw[this,List.map_id]
end Kd
namespace Kd
open Go Go.Ideal Canon
def ol(grid:List Int)(c:Int):Int:=grid.getD c.toNat 0
theorem vT{grid:List Int}{n:Nat}{x:Int}(h:grid[n]? =some x):ol grid (n:Int)=x:=by unfold ol;exact uO h
def qJ(n op b:Int):Bool:=(decide (op=1)&&decide (n=b))||(decide (op=2)&&decide (n<=b))||(decide (op=3)&&decide (b<=n))
def mW(aN:List (List Int))(grid:List Int)(c:Int->Int->Bool):Bool:=aN.zipIdx.all λp=>p.1.all λb=>c (ol grid (p.2:Int)) (ol grid b)
theorem Uk{aN:List (List Int)}{grid:List Int}{c:Int->Int->Bool}{j:Nat}{l:List Int}(h:aN[j]? =some l):mW (aN.take (j+1)) grid c=(mW (aN.take j) grid c&&l.all λb=>c (ol grid (j:Int)) (ol grid b)):=by
 have hj:=(bK.1 h).1;unfold mW;rw[bS h,DI,Dz,gL,zF (by omega),fC,Kb,List.zipIdx_nil,wo,Gl,Bool.and_true]
theorem Jo{aN:List (List Int)}{grid:List Int}{c:Int->Int->Bool}{j i:Nat}{l:List Int}{b:Int}(h:aN[j]? =some l)(hb:l[i]? =some b)(hc:c (ol grid (j:Int)) (ol grid b)=false):mW aN grid c=false:=by
 unfold mW;rw[List.all_eq_false];refine⟨(l,j),?_,?_⟩
 ·exact zG.2 h
 ·simp only[Bool.not_eq_true,List.all_eq_false];exact⟨b,aP hb,by simp[hc]⟩
end Kd
namespace Kd
open Go Go.Ideal
def xL(n:Nat)(l:List Int):Prop:=l.length<=4096/\∀c∈l,0<=c/\c<(n:Int)
theorem Jp{g:bD}:∀p∈bE g,0<=p.1/\p.1<(g.cells.length:Int):=by
 intro p hp;obtain⟨k,hk⟩:=vz.1 hp;have hkl:=(bK.1 hk).1;rw[qa]at hkl;have:=xH hk;omega
theorem adz(kf:Int×Int->Int×Bool)(n:Nat):∀ps:List (Int×(Int×Int)),ps.length=n->∀a,∀c∈(dL a (jC kf ps)).getD [],∃p∈ps,p.1=c:=by
 induction n with
 |zero=>
  intro ps h a c hc;rw[jQ.1 h]at hc;have hc:c∈([]:List Int):=hc;cases hc
 |succ n ih=>
  intro ps h a c hc;obtain⟨qs,p,rfl⟩:∃qs p,ps=qs++[p]:=⟨ps.dropLast,ps.getLast (by intro e;rw[e]at h;cases h),(BG _).symm⟩
  have hq:qs.length=n:=by simpa using h
  have hih:∀a,∀c∈(dL a (jC kf qs)).getD [],∃p'∈qs++[p],p'.1=c:=λa c hc=>by
   obtain⟨q,h1,h2⟩:=ih qs hq a c hc;exact⟨q,kZ _ h1,h2⟩
  rw[Fu]at hc;unfold vQ at hc;cases hb:(kf p.2).2 with
  |false=>
   rw[hb]at hc;exact hih a c hc
  |true=>
   rw[hb]at hc;have hc:c∈(dL a (upd (kf p.2).1 ((dL (kf p.2).1 (jC kf qs)).getD []++[p.1]) (jC kf qs))).getD []:=hc;rw[xI]at hc;by_cases e:a=(kf p.2).1
   ·rw[if_pos e,vo]at hc;rcases dB.1 hc with hc|hc
    ·exact hih _ c hc
    ·exact⟨p,by simp,(bM.1 hc).symm⟩
   ·rw[if_neg e]at hc;exact hih a c hc
theorem Fw{g:bD}(hg:fH g)(kf:Int×Int->Int×Bool):∀l∈jg g kf,xL g.cells.length l:=by
 intro l hl;have hlen:=(Jj hg kf).2 l hl;refine⟨by omega,λc hc=>?_⟩;unfold jg at hl;obtain⟨n,_,rfl⟩:=eT.1 hl;obtain⟨p,hp,rfl⟩:=adz kf _ (bE g) rfl n c hc;exact Jp p hp
theorem ND{a b:List (List Int)}{l:List Int}(h:l∈mo a b):l∈a\/l∈b:=by
 unfold mo at h;induction b generalizing a with
 |nil=>exact .inl h
 |cons x b ih=>
  rw[qZ]at h;rcases ih h with h|h
  ·unfold xJ at h;split at h
   ·exact .inl h
   ·rcases dB.1 h with h|h
    ·exact .inl h
    ·exact .inr (by rw[bM.1 h];simp)
  ·exact .inr (dN _ h)
theorem Ul{o:Option Value}{n:Int}(h:numOf o=some n):o=some (.int .i64 n):=by
 unfold numOf at h;split at h
 ·cases h;rfl
 ·cases h
theorem adA{g:bD}{p:Int×(Int×Int)}:xL g.cells.length (lY g p):=by
 unfold lY;refine⟨?_,λc hc=>?_⟩
 ·have h1:(dD (gu (fB (bE g)) p.2 (eP.take (dS g)))).length=(gu (fB (bE g)) p.2 (eP.take (dS g))).length:=(BD _ _).length_eq;have h2:=Jg (fB (bE g)) p.2 (eP.take (dS g));have h3:=AC g;rw[gL]at h2;omega
 ·rw[vR]at hc;unfold gu at hc;obtain⟨d,_,hd⟩:=Gf.1 hc;obtain⟨c',h1,q,hq,h2⟩:=TU _ _ (Ul hd);injection h1 with _ h1;rw[h1,<- h2];exact Jp q hq
theorem Jq{g:bD}:∀l∈bO g,xL g.cells.length l:=by
 intro l hl;obtain⟨p,_,rfl⟩:=eT.1 hl;exact adA
theorem adB(l:List Int):(dD l).length=l.length:=(BD l _).length_eq
theorem adC{g:bD}(hg:fH g)(k:Int):∀l∈dx g k,xL g.cells.length l:=by
 have hlen:=hg.len;have hnl:=vP g;have hnm:=Jl (g:=g);intro l hl;unfold dx at hl;split at hl
 ·unfold kF at hl;obtain⟨i,hi,rfl⟩:=eT.1 hl;have:=uf.1 hi;exact⟨by simp,λc hc=>by rw[bM.1 hc];omega⟩
 split at hl
 ·exact Fw hg _ l hl
 split at hl
 ·exact Fw hg _ l hl
 split at hl
 ·unfold lZ at hl;split at hl
  ·exact Fw hg _ l hl
  split at hl
  ·rcases ND hl with hl|hl
   ·exact Fw hg _ l hl
   ·exact Fw hg _ l hl
  ·cases hl
 split at hl
 ·exact Jq l hl
 split at hl
 ·unfold lH at hl;obtain⟨⟨x,i⟩,hx,rfl⟩:=eT.1 hl;have hx:=zG.1 hx;have hxm:=aP hx;have hi:=(bK.1 hx).1;have h6:=hnm x hxm;refine⟨by rw[adB];simp;omega,λc hc=>?_⟩;rw[vR]at hc;rcases dB.1 hc with hc|hc
  ·exact(Jq x hxm).2 c hc
  ·rw[bM.1 hc];dsimp only;omega
 split at hl
 ·unfold iA at hl;obtain⟨⟨x,i⟩,hx,hl⟩:=List.mem_flatMap.1 hl;have hx:=zG.1 hx;have hxm:=aP hx;have hi:=(bK.1 hx).1;unfold jJ at hl;obtain⟨j,hj,rfl⟩:=eT.1 hl;have hj:=(pI.1 hj).1;refine⟨by simp,λc hc=>?_⟩;simp only[dG,Ki,or_false]at hc;rcases hc with rfl|rfl
  ·omega
  ·exact(Jq x hxm).2 _ hj
 ·rw[bM.1 hl];refine⟨by rw[oh];omega,λc hc=>?_⟩;unfold upTo' at hc;obtain⟨i,hi,rfl⟩:=eT.1 hc;have:=uf.1 hi;omega
theorem adD{g:bD}(hg:fH g){rs:List (List Int)}(hr:ze g rs):∀l∈eD g rs,xL g.cells.length l:=by
 intro l hl;obtain⟨ps,hps,rfl⟩:=eT.1 hl;have hP:=hr.all ps hps;have h1:=Jm hP.mem hP.nd;have h2:=hg.len;refine⟨by unfold fu;rw[dV];omega,λc hc=>?_⟩;obtain⟨p,hp,rfl⟩:=eT.1 hc;have:=NB (hP.mem p hp);omega
theorem Um{d:bG}(hg:fH (aQ d))(hr:∀r∈d.regions,ze (aQ d) r.lists):∀l∈l5 d,∀ps∈l,xL (aQ d).cells.length ps:=by
 intro l hl ps hps;unfold l5 at hl;rcases dB.1 hl with hl|hl
 ·obtain⟨f,_,rfl⟩:=eT.1 hl;exact adC hg _ ps hps
 ·obtain⟨r,hrm,rfl⟩:=eT.1 hl;exact adD hg (hr r hrm) ps hps
theorem adE{g:bD}(hw:1<=g.w){x y:Int}(hx:0<=x)(hy:0<=y)(h:nO g x=nO g y):x=y:=by
 unfold nO at h;have h1:=congrArg Prod.fst h;have h2:=congrArg Prod.snd h;dsimp only at h1 h2;rw[ul hx,ul hy]at h2;rw[ul hx,ul hy,DL hx,DL hy,h2]at h1;have h3:x%g.w=y%g.w:=by
  split at h1<;>omega
 have e1:=PI x g.w;have e2:=PI y g.w;rw[h2,h3]at e1;omega
theorem Jr{g:bD}(hg:fH g){p q:Int×(Int×Int)}(hp:p∈bE g)(hq:q∈bE g)(h:p.1=q.1\/p.2=q.2):p=q:=by
 obtain⟨k,hk⟩:=vz.1 hp;obtain⟨j,hj⟩:=vz.1 hq;have hkl:=(bK.1 hk).1;have hjl:=(bK.1 hj).1;rw[qa]at hkl hjl;rcases h with h|h
 ·have h1:=xH hk;have h2:=xH hj;have:k=j:=by omega
  subst this;rw[hk]at hj;exact Option.some.inj hj
 ·have hx:g.cells[k]? =some g.cells[k]:=bN hkl;have hy:g.cells[j]? =some g.cells[j]:=bN hjl;have hkk:=hk;have hjj:=hj;rw[xG hx]at hk;rw[xG hy]at hj;have hk:=Option.some.inj hk;have hj:=Option.some.inj hj;have hs:nO g g.cells[k]=nO g g.cells[j]:=by rw[<- hk,<- hj]at h;exact h
  have he:=adE (by have:=hg.make.wi;omega) (hg.cell _ (uY _)).1 (hg.cell _ (uY _)).1 hs;have mX:g.cells.Pairwise (·<·):=by rw[hg.cells];exact Ns _ _
  have hkj:k=j:=by
   apply Classical.byContradiction;intro hne;have:=zH.1 mX;rcases Nat.lt_or_gt_of_ne hne with hl|hl
   ·have:=this k j hkl hjl hl;omega
   ·have:=this j k hjl hkl hl;omega
  subst hkj;rw[hkk]at hjj;exact Option.some.inj hjj
theorem adF(n:Nat):∀xs:List (Int×(Int×Int)),xs.length=n->(∀p∈xs,∀q∈xs,p.2=q.2->p=q)->∀p∈xs,dL p.2 (fB xs)=some (.int .i64 p.1):=by
 induction n with
 |zero=>intro xs h _ p hp;rw[jQ.1 h]at hp;cases hp
 |succ n ih=>
  intro xs h hi p hp;obtain⟨ys,q,rfl⟩:∃ys q,xs=ys++[q]:=⟨xs.dropLast,xs.getLast (by intro e;rw[e]at h;cases h),(BG _).symm⟩
  rw[Nt,xI];by_cases e:p.2=q.2
  ·have:=hi p hp q (by simp) e;subst this;rw[if_pos rfl]
  ·rw[if_neg e];refine ih ys (by simpa using h) (λa ha b hb=>hi a (kZ _ ha) b (kZ _ hb)) p ?_;rcases dB.1 hp with hp|hp
   ·exact hp
   ·rw[bM.1 hp]at e;exact absurd rfl e
theorem adG(n:Nat):∀xs:List (Int×(Int×Int)),xs.length=n->∀a v,dL a (fB xs)=some v->∃p∈xs,p.2=a/\v=.int .i64 p.1:=by
 induction n with
 |zero=>
  intro xs h a v hv;rw[jQ.1 h]at hv;cases hv
 |succ n ih=>
  intro xs h a v hv;obtain⟨ys,q,rfl⟩:∃ys q,xs=ys++[q]:=⟨xs.dropLast,xs.getLast (by intro e;rw[e]at h;cases h),(BG _).symm⟩
  rw[Nt,xI]at hv;by_cases e:a=q.2
  ·rw[if_pos e]at hv;exact⟨q,by simp,e.symm,(Option.some.inj hv).symm⟩
  ·rw[if_neg e]at hv;obtain⟨p,h1,h2⟩:=ih ys (by simpa using h) a v hv;exact⟨p,kZ _ h1,h2⟩
theorem Js{g:bD}(hg:fH g){s:Int×Int}{d:Int×Int}{n:Int}:numOf (dL (s.1+d.1,s.2+d.2) (fB (bE g)))=some n↔∃q∈bE g,q.2=(s.1+d.1,s.2+d.2)/\q.1=n:=by
 constructor
 ·intro h;obtain⟨q,hq,h1,h2⟩:=adG _ (bE g) rfl _ _ (Ul h);injection h2 with _ h2;exact⟨q,hq,h1,h2.symm⟩
 ·rintro⟨q,hq,h1,h2⟩;rw[<- h1,adF _ (bE g) rfl (λa ha b hb e=>Jr hg ha hb (.inr e)) q hq,<- h2];rfl
theorem NE{g:bD}(hg:fH g){p:Int×(Int×Int)}{n:Int}:n∈lY g p↔∃d∈eP.take (dS g),∃q∈bE g,q.2=(p.2.1+d.1,p.2.2+d.2)/\q.1=n:=by
 unfold lY;rw[vR];unfold gu;rw[Gf];constructor
 ·rintro⟨d,hd,h⟩;exact⟨d,hd,(Js hg).1 h⟩
 ·rintro⟨d,hd,h⟩;exact⟨d,hd,(Js hg).2 h⟩
theorem Un(g:bD):dS g=4\/dS g=6:=by unfold dS;split<;>simp
theorem adH{m:Nat}(hm:m=4\/m=6):∀d∈eP.take m,(-d.1, -d.2)∈eP.take m:=by
 rcases hm with rfl|rfl<;>decide
theorem adI{m:Nat}:∀d∈eP.take m,¬(d.1=0/\d.2=0):=by
 intro d hd;have:=Po hd;revert d;have:∀d∈eP,¬(d.1=0/\d.2=0):=by decide
 intro d _ hd;exact this d hd
theorem adJ{m:Nat}(hm:m=4\/m=6):(eP.take m).Nodup:=by
 rcases hm with rfl|rfl<;>decide
theorem adK(l:List Int):(dD l).Pairwise (λx y=>x<=y):=by
 have:=Xa (le:=λx y:Int=>decide (x<=y)) (λa b c h1 h2=>by simp at h1 h2⊢;omega) (λa b=>by simp;omega) l;exact this.imp (λh=>by simpa using h)
theorem Jt{l:List Int}(h:l.Nodup):(dD l).Pairwise (·<·):=by
 have h1:=adK l;have h2:(dD l).Nodup:=(BD l _).symm.nodup h;have h3:(dD l).Pairwise (λx y=>x<=y/\x≠y):=List.Pairwise.and h1 h2;exact h3.imp (λh=>by omega)
theorem NF{g:bD}(hg:fH g)(p:Int×(Int×Int)):(lY g p).Pairwise (·<·):=by
 unfold lY;refine Jt ?_;unfold gu;refine List.Pairwise.filterMap _ ?_ (adJ (Un g));intro d1 d2 hne b hb b' hb' e;subst e;obtain⟨q1,h1,h2,h3⟩:=(Js hg).1 hb;obtain⟨q2,k1,k2,k3⟩:=(Js hg).1 hb';have:=Jr hg h1 k1 (.inl (by rw[h3,k3]));subst this;rw[h2]at k2;apply hne;have e1:=congrArg Prod.fst k2;have e2:=congrArg Prod.snd k2;dsimp only at e1 e2;exact Prod.ext (by omega) (by omega)
theorem NG{g:bD}(hg:fH g)(i:Nat)(l:List Int)(hl:(bO g)[i]? =some l)(k:Nat)(n:Int)(hn:l[k]? =some n):
 0<=n/\n<(bO g).length/\n≠i/\(∀m,0<k->l[k - 1]? =some m->m<n)/\∀l',(bO g)[n.toNat]? =some l'->(i:Int)∈l':=by
 have hnm:=vP g;unfold bO at hl;rw[fw]at hl;obtain⟨p,hp,rfl⟩:=nC.1 hl;have hp1:=xH hp;have hpm:=aP hp;obtain⟨d,hd,q,hq,hq2,hq1⟩:=(NE hg).1 (aP hn);have hqi:=Jp q hq;refine⟨by omega,by omega,λe=>?_,λm hk hm=>?_,λl' hl'=>?_⟩
 ·have:q=p:=Jr hg hq hpm (.inl (by omega));subst this;have e1:=congrArg Prod.fst hq2;have e2:=congrArg Prod.snd hq2;dsimp only at e1 e2;exact adI d hd ⟨by omega,by omega⟩
 ·have hlt:=NF hg p;obtain⟨a1,a2⟩:=bK.1 hm;obtain⟨b1,b2⟩:=bK.1 hn;have:=zH.1 hlt (k - 1) k a1 b1 (by omega);rw[a2,b2]at this;exact this
 ·unfold bO at hl';rw[fw]at hl';obtain⟨q',hq',rfl⟩:=nC.1 hl';have h1:=xH hq';have:q'=q:=Jr hg (aP hq') hq (.inl (by omega));subst this;rw[NE hg];refine⟨(-d.1, -d.2),adH (Un g) d hd,p,hpm,?_,hp1⟩;rw[hq2];dsimp only;exact Prod.ext (by dsimp only;omega) (by dsimp only;omega)
end Kd
namespace Kd
open Go Go.Ideal Canon Gph
def iR(r:bB):Int:=if r.kind=6\/r.kind=7\/r.kind=8 then 6 else if r.kind=9\/r.kind=10 then 7 else if r.kind=11 then 0 else r.family
end Kd
namespace Kd
open Go Go.Ideal Canon Gph
def om(p:List Clue)(c:Int)(at_:Int):Option (List Int):=(p.find? λg=>decide (g.aB=c/\g.at_=at_)).map (·.values)
def qc(p:List Clue)(r:bB)(x:List Int×Nat):Option (Nat×List Int×List Int):=if r.aB<0 then some (x.2,x.1,[])else(om p r.aB (x.2:Int)).map λv=>(x.2,x.1,v)
def pE(p:List Clue)(r:bB)(ls:List (List Int)):List (Nat×List Int×List Int):=ls.zipIdx.filterMap (qc p r)
theorem Uo{p:List Clue}{r:bB}{ls:List (List Int)}{j:Nat}{l:List Int}(h:ls[j]? =some l):pE p r (ls.take (j+1))=pE p r (ls.take j)++(qc p r (l,j)).toList:=by
 have hk:=(bK.1 h).1;unfold pE;rw[bS h,DI,PG,gL,zF (by omega)];congr 1;rw[Kb,List.zipIdx_nil,fC,List.filterMap_cons,List.filterMap_nil];cases qc p r (l,j)<;>rfl
end Kd
namespace Kd
open Go Go.Ideal Canon Gph
theorem adL(kf:Int×Int->Int×Bool)(n:Nat):∀ps:List (Int×(Int×Int)),ps.length=n->∀a,((dL a (jC kf ps)).getD []).Sublist (ps.map (·.1)):=by
 induction n with
 |zero=>
  intro ps h a;rw[jQ.1 h];exact List.Sublist.refl _
 |succ n ih=>
  intro ps h a;obtain⟨qs,p,rfl⟩:∃qs p,ps=qs++[p]:=⟨ps.dropLast,ps.getLast (by intro e;rw[e]at h;cases h),(BG _).symm⟩
  have hq:qs.length=n:=by simpa using h
  have ih:=ih qs hq;rw[ed,Fu];unfold vQ;cases hb:(kf p.2).2 with
  |false=>exact(ih a).trans (List.sublist_append_left _ _)
  |true=>
   show((dL a (upd (kf p.2).1 ((dL (kf p.2).1 (jC kf qs)).getD []++[p.1]) (jC kf qs))).getD []).Sublist _;rw[xI];by_cases e:a=(kf p.2).1
   ·rw[if_pos e,vo];exact(ih _).append (List.Sublist.refl _)
   ·rw[if_neg e];exact(ih a).trans (List.sublist_append_left _ _)
theorem adM{g:bD}:(bE g).map (·.1)=upTo' g.cells.length:=by
 apply kP;intro i;unfold upTo';rw[fw,fw];by_cases h:i<g.cells.length
 ·rw[xG (bN h),Ke h];rfl
 ·rw[iX (by rw[qa];omega),iX (by rw[Kl];omega)];rfl
theorem Uq(n:Nat):(upTo' n).Nodup:=by
 unfold upTo';refine List.Pairwise.map _ (λa b h=>?_) List.nodup_range;intro e;apply h;omega
theorem Fx{g:bD}(kf:Int×Int->Int×Bool):∀l∈jg g kf,l.Nodup:=by
 intro l hl;unfold jg at hl;obtain⟨n,_,rfl⟩:=eT.1 hl;have:=adL kf _ (bE g) rfl n;rw[adM]at this;exact this.nodup (Uq _)
theorem Ur{g:bD}(hg:fH g)(p:Int×(Int×Int)):(lY g p).Nodup:=(NF hg p).imp (λh=>by omega)
theorem adN{l:List Int}(h:l.Nodup):(dD l).Nodup:=(Jt h).imp (λh=>by omega)
theorem adO{aN:List (List Int)}{l:List Int}(h:l∈iA aN):∃(i:Nat) (x:List Int) (j:Int),aN[i]? =some x/\j∈x/\(i:Int)<j/\l=[(i:Int),j]:=by
 unfold iA at h;obtain⟨⟨x,i⟩,hx,hl⟩:=List.mem_flatMap.1 h;unfold jJ at hl;obtain⟨j,hj,rfl⟩:=eT.1 hl;obtain⟨h1,h2⟩:=pI.1 hj;exact⟨i,x,j,zG.1 hx,h1,iw h2,rfl⟩
theorem adP{g:bD}(hg:fH g)(k:Int):∀l∈dx g k,l.Nodup:=by
 intro l hl;unfold dx at hl;split at hl
 ·unfold kF at hl;obtain⟨i,hi,rfl⟩:=eT.1 hl;simp
 split at hl
 ·exact Fx _ l hl
 split at hl
 ·exact Fx _ l hl
 split at hl
 ·unfold lZ at hl;split at hl
  ·exact Fx _ l hl
  split at hl
  ·rcases ND hl with hl|hl
   ·exact Fx _ l hl
   ·exact Fx _ l hl
  ·cases hl
 split at hl
 ·unfold bO at hl;obtain⟨p,_,rfl⟩:=eT.1 hl;exact Ur hg p
 split at hl
 ·unfold lH at hl;obtain⟨⟨x,i⟩,hx,rfl⟩:=eT.1 hl;have hx:=zG.1 hx;have hxm:=aP hx;refine adN ?_;rw[iq];refine⟨?_,by simp,λa ha b hb e=>?_⟩
  ·unfold bO at hxm;obtain⟨p,_,rfl⟩:=eT.1 hxm;exact Ur hg p
  ·rw[bM.1 hb]at e;obtain⟨j,hj⟩:=nA ha;exact(NG hg i x hx j a hj).2.2.1 e
 split at hl
 ·obtain⟨i,x,j,h1,h2,h3,rfl⟩:=adO hl;simp only[BA,bM,Ki,not_false_iff,wz,yA];omega
 ·rw[bM.1 hl];exact Uq _
theorem adQ{d:bG}(hg:fH (aQ d))(hr:∀r∈d.regions,ze (aQ d) r.lists):∀l∈l5 d,∀ps∈l,ps.Nodup:=by
 intro l hl ps hps;unfold l5 at hl;rcases dB.1 hl with hl|hl
 ·obtain⟨f,_,rfl⟩:=eT.1 hl;exact adP hg _ ps hps
 ·obtain⟨r,hrm,rfl⟩:=eT.1 hl;obtain⟨q,hq,rfl⟩:=eT.1 hps;exact((hr r hrm).all q hq).nd
end Kd
namespace Kd
open Go Go.Ideal Canon Gph
theorem NH{k:bR}{p:List Clue}(h:jO k p):∀(d i:Nat) a b,p[i]? =some a->p[i+1+d]? =some b->iF a b<0
 |0,i,a,b,ha,hb=>h.sorted i a b ha hb
 |d+1,i,a,b,ha,hb=>by
  have hlt:=(bK.1 hb).1;have hc:p[i+1+d]? =some (p[i+1+d]'(by omega)):=bN _;exact NC (NH h d i a _ ha hc) (h.sorted (i+1+d) _ b hc hb)
theorem adR{k:bR}{p:List Clue}(h:jO k p){a b:Clue}(ha:a∈p)(hb:b∈p)(h1:a.aB=b.aB)(h2:a.at_=b.at_):a=b:=by
 obtain⟨i,hi⟩:=nA ha;obtain⟨j,hj⟩:=nA hb;rcases Nat.lt_trichotomy i j with hl|hl|hl
 ·have:=zf.1 (NH h (j - (i+1)) i a b hi (by rw[show i+1+(j - (i+1))=j by omega];exact hj));omega
 ·subst hl;rw[hi]at hj;exact Option.some.inj hj
 ·have:=zf.1 (NH h (i - (j+1)) j b a hj (by rw[show j+1+(i - (j+1))=i by omega];exact hi));omega
theorem NI{k:bR}{p:List Clue}(h:jO k p){c a:Int}{v:List Int}:om p c a=some v↔∃g∈p,g.aB=c/\g.at_=a/\g.values=v:=by
 unfold om;constructor
 ·intro hf;obtain⟨g,hg,rfl⟩:=nC.1 hf;have h1':=List.find?_some hg;have h1:g.aB=c/\g.at_=a:=iw h1';exact⟨g,WZ hg,h1.1,h1.2,rfl⟩
 ·rintro⟨g,hg,h1,h2,rfl⟩;cases hf:p.find? (λg=>decide (g.aB=c/\g.at_=a))with
  |none=>exact absurd (dQ ⟨h1,h2⟩) (PE.1 hf g hg)
  |some g2=>
   have h3':=List.find?_some hf;have h3:g2.aB=c/\g2.at_=a:=iw h3';rw[adR h hg (WZ hf) (by omega) (by omega)];rfl
theorem xM{p:List Clue}{r:bB}{ls:List (List Int)}{y:Nat×List Int×List Int}:y∈pE p r ls↔ls[y.1]? =some y.2.1/\((r.aB<0/\y.2.2=[])\/(0<=r.aB/\om p r.aB (y.1:Int)=some y.2.2)):=by
 obtain⟨j,l,v⟩:=y;unfold pE;rw[Gf];constructor
 ·rintro⟨⟨x,i⟩,hx,h⟩;have hx:=zG.1 hx;unfold qc at h;split at h
  ·rename_i hc;cases h;exact⟨hx,.inl ⟨hc,rfl⟩⟩
  ·rename_i hc;obtain⟨w,hw,e⟩:=nC.1 h;cases e;exact⟨hx,.inr ⟨by omega,hw⟩⟩
 ·rintro⟨h1,h2⟩;refine⟨(l,j),zG.2 h1,?_⟩;unfold qc;rcases h2 with⟨hc,e⟩|⟨hc,e⟩
  ·rw[if_pos hc];dsimp only at e;rw[e]
  ·rw[if_neg (by omega)];dsimp only at e⊢;rw[e];rfl
theorem Us{k:bR}{p:List Clue}{r:bB}{ls:List (List Int)}(hQ:jO k p)(hls:k.lists[(iR r).toNat]? =some ls)(h0:r.aB<0->r.family=iR r)(h1:0<=r.aB->∃c,k.decl.aM[r.aB.toNat]? =some c/\c.family=iR r)
 (P:List Int->List Int->Prop):(∀x∈eY k p r,P x.1 x.2)↔∀y∈pE p r ls,P y.2.1 (if r.aB<0 then[r.n]else y.2.2):=by
 unfold eY;by_cases hc:r.aB<0
 ·rw[if_pos hc,h0 hc,uO hls];constructor
  ·intro h y hy;obtain⟨h2,_⟩:=xM.1 hy;rw[if_pos hc];exact h _ (eT.2 ⟨_,aP h2,rfl⟩)
  ·intro h x hx;obtain⟨l,hl,rfl⟩:=eT.1 hx;obtain⟨j,hj⟩:=nA hl;have:=h (j,l,[]) (xM.2 ⟨hj,.inl ⟨hc,rfl⟩⟩);rw[if_pos hc]at this;exact this
 ·rw[if_neg hc];obtain⟨c,hc1,hc2⟩:=h1 (by omega);have hcell:∀g∈p,g.aB=r.aB->∃(j:Nat) (ps:List Int),g.at_=(j:Int)/\ls[j]? =some ps/\kR k g=ps:=λg hg hgc=>by
   obtain⟨c',l,ps,a1,a2,a3,a4,a5,a6,a7⟩:=(hQ.right g hg).cells;rw[hgc,hc1]at a1;cases a1;rw[hc2,hls]at a2;cases a2;exact⟨g.at_.toNat,ps,by omega,a3,a7⟩
  constructor
  ·intro h y hy;obtain⟨h2,h3⟩:=xM.1 hy;rw[if_neg hc];rcases h3 with h3|h3
   ·exact absurd h3.1 hc
   obtain⟨g,g1,g2,g3,g4⟩:=(NI hQ).1 h3.2;obtain⟨j,ps,b1,b2,b3⟩:=hcell g g1 g2;have hj:j=y.1:=by omega
   subst hj;rw[h2]at b2;cases b2;have:=h _ (eT.2 ⟨g,pI.2 ⟨g1,dQ g2⟩,rfl⟩);dsimp only at this;rw[b3,g4]at this;exact this
  ·intro h x hx;obtain⟨g,hg,rfl⟩:=eT.1 hx;obtain⟨g1,g2⟩:=pI.1 hg;have g2:g.aB=r.aB:=iw g2;obtain⟨j,ps,b1,b2,b3⟩:=hcell g g1 g2;have:=h (j,ps,g.values) (xM.2 ⟨b2,.inr ⟨by omega,(NI hQ).2 ⟨g,g1,g2,b1,rfl⟩⟩⟩);rw[if_neg hc]at this;dsimp only at this⊢;rw[b3];exact this
end Kd
namespace Kd
open Go Go.Ideal
end Kd
namespace Kd
open Go Go.Ideal Canon Gph
theorem adS{g:bD}(hg:fH g)(k:Int):(dx g k).length<=2048:=by
 have hl:=hg.len;have hn:=vP g;have hL:=λkf=>Jj hg kf;unfold dx;split
 ·unfold kF;rw[dV,Kl];omega
 split
 ·have:=(hL (λs=>(s.2,true))).1;omega
 split
 ·have:=(hL (λs=>(s.1,true))).1;omega
 split
 ·unfold lZ;split
  ·have:=(hL (λs=>(s.1+s.2,true))).1;omega
  split
  ·have h1:=hL (λs=>(0,decide (s.1=s.2)));have h2:=hL (λs=>(0,decide (s.1+s.2=g.w - 1)));have:=(Nw h1.2 h2.2 (jg g (λs=>(0,decide (s.1+s.2=g.w - 1)))).length).1;rw[bC]at this;omega
  ·simp
 split
 ·omega
 split
 ·unfold lH;rw[dV,List.length_zipIdx];omega
 split
 ·have:=Jk (aN:=bO g) Jl (bO g).length (bU _);rw[bC]at this;omega
 ·simp
theorem adT{d:bG}(hg:fH (aQ d))(hr:∀r∈d.regions,ze (aQ d) r.lists):∀l∈l5 d,l.length<=2048:=by
 intro l hl;unfold l5 at hl;rcases dB.1 hl with hl|hl
 ·obtain⟨f,_,rfl⟩:=eT.1 hl;exact adS hg _
 ·obtain⟨r,hrm,rfl⟩:=eT.1 hl;have:=(hr r hrm).len;unfold eD;rw[dV];omega
end Kd
namespace Kd
open Canon
theorem Ju{a b:Clue}:iF a b=0↔a.aB=b.aB/\a.at_=b.at_:=by
 unfold iF gK;simp only[uQ];split<;>split at *<;>(try split at *)<;>(try split at *)<;>(try split at *)<;>omega
theorem adU(a b:Clue):EN a b=if iF a b≠0 then iF a b else jb gK a.values b.values:=by
 rw[aaR,<- Uh]
theorem adV{a b:Clue}:EN a b<0↔iF a b<0\/(iF a b=0/\jb gK a.values b.values<0):=by
 rw[adU];split<;>omega
structure xN(xs rs:List Clue):Prop where
 inc:rs.Pairwise λa b=>iF a b<0
 sub:∀r∈rs,r∈xs
 all:∀x∈xs,∃r∈rs,iF x r=0/\¬jb gK x.values r.values<0
theorem adW{rs:List Clue}(h:rs.Pairwise λa b=>iF a b<0){a b:Clue}(ha:a∈rs)(hb:b∈rs)(he:iF a b=0):a=b:=by
 induction h with
 |nil=>cases ha
 |cons h1 _ ih=>
  rcases dG.1 ha with e1|ha'<;>rcases dG.1 hb with e2|hb'
  ·rw[e1,e2]
  ·have:=h1 b hb';rw[<- e1]at this;omega
  ·have:=h1 a ha';rw[<- e2]at this;rw[Ju]at he;rw[zf]at this;omega
  ·exact ih ha' hb'
theorem xN.mem{xs rs rs':List Clue}(h:xN xs rs)(h':xN xs rs'){r:Clue}(hr:r∈rs):r∈rs':=by
 obtain⟨r2,m2,p2,v2⟩:=h'.all r (h.sub r hr);obtain⟨r1,m1,p1,v1⟩:=h.all r2 (h'.sub r2 m2);have h3:iF r r1=0:=by rw[Ju]at *;omega
 have:=adW h.inc hr m1 h3;subst this;have hO:=RX RV;have h4:jb gK r.values r2.values=0:=by
  have:=hO.neg r2.values r.values;have:=hO.neg r.values r2.values;omega
 have h5:=(hO.zero _ _).1 h4;rw[Ju]at p2;have:r=r2:=by cases r;cases r2;simp_all
 rw[this];exact m2
theorem Ut:∀{a b:List Clue},(a.Pairwise λx y=>iF x y<0)->(b.Pairwise λx y=>iF x y<0)->(∀x,x∈a↔x∈b)->a=b
 |[],[],_,_,_=>rfl
 |[],y::b,_,_,h=>absurd ((h y).2 (dJ ..)) (by simp)
 |x::a,[],_,_,h=>absurd ((h x).1 (dJ ..)) (by simp)
 |x::a,y::b,ha,hb,h=>by
  obtain⟨a1,a2⟩:=rq.1 ha;obtain⟨b1,b2⟩:=rq.1 hb;have hxy:x=y:=by
   rcases dG.1 ((h x).1 (dJ ..))with e|e
   ·exact e
   ·rcases dG.1 ((h y).2 (dJ ..))with e'|e'
    ·exact e'.symm
    ·have q1:=b1 x e;have q2:=a1 y e';rw[zf]at q1 q2;omega
  subst hxy;have Uu:∀z:Clue,¬iF z z<0:=λz h=>by rw[zf]at h;omega
  rw[Ut a2 b2 λz=>⟨λhz=>?_,λhz=>?_⟩]
  ·rcases dG.1 ((h z).1 (dN _ hz))with e|e
   ·subst e;exact absurd (a1 z hz) (Uu z)
   ·exact e
  ·rcases dG.1 ((h z).2 (dN _ hz))with e|e
   ·subst e;exact absurd (b1 z hz) (Uu z)
   ·exact e
theorem xN.uniq{xs rs rs':List Clue}(h:xN xs rs)(h':xN xs rs'):rs=rs':=Ut h.inc h'.inc λr=>⟨h.mem h',h'.mem h⟩
theorem xN.self{xs rs:List Clue}(h:xN xs rs):xN rs rs:=⟨h.inc,λ_ h=>h,λx hx=>⟨x,hx,by rw[Ju];exact⟨rfl,rfl⟩,by have:=((RX RV).zero x.values x.values).2 rfl;omega⟩⟩
def opn(p:List Clue)(x:Clue):Bool:=match p.getLast? with
 |none=>true
 |some y=>decide (0<iF x y)
theorem NJ{p:List Clue}{b x:Clue}:opn (p++[b]) x=decide (0<iF x b):=by
 unfold opn;rw[List.getLast?_append];rfl
theorem Jv{a b:Clue}:0<iF a b↔iF b a<0:=by
 rw[zf];unfold iF gK;simp only[uQ];split<;>split at *<;>(try split at *)<;>(try split at *)<;>(try split at *)<;>omega
structure NK(l p:List Clue)(n:Nat):Prop where
 inc:p.Pairwise λa b=>iF a b<0
 sub:∀r∈p,r∈l
 done:∀x∈l,opn p x=false->∃r∈p,iF x r=0/\¬jb gK x.values r.values<0
 cnt:l.countP (opn p)+n<=l.length
theorem Uv{α:Type}{p q:α->Bool}:∀{l:List α} {b:α},b∈l->p b=true->q b=false->(∀x,q x=true->p x=true)->l.countP q+1<=l.countP p
 |x::l,b,hb,h1,h2,h3=>by
  rw[List.countP_cons,List.countP_cons];rcases dG.1 hb with rfl|hb
  ·have:=List.countP_mono_left (l:=l) (p:=q) (q:=p) λx _=>h3 x;rw[h1,h2];simp only[if_true];simp;omega
  ·have:=Uv hb h1 h2 h3;by_cases e:q x=true
   ·rw[if_pos e,if_pos (h3 x e)];omega
   ·rw[if_neg e];omega
theorem Uw:∀{p:List Clue} {y:Clue},(p.Pairwise λa b=>iF a b<0)->p.getLast? =some y->∀a∈p,a=y\/iF a y<0
 |[],y,_,h,a,ha=>by cases ha
 |[x],y,_,h,a,ha=>by
  cases h;exact .inl (bM.1 ha)
 |x::z::p,y,hp,h,a,ha=>by
  obtain⟨h1,h2⟩:=rq.1 hp;have h':(z::p).getLast? =some y:=by rw[List.getLast?_cons_cons]at h;exact h
  rcases dG.1 ha with rfl|ha
  ·exact .inr (h1 y (List.mem_of_getLast? h'))
  ·exact Uw h2 h' a ha
theorem NK.step{l p:List Clue}{n:Nat}{b:Clue}(h:NK l p n)(hb:b∈l)(ho:opn p b=true)(hl:∀x∈l,opn p x=true->¬EN x b<0):NK l (p++[b]) (n+1):=by
 have hab:∀y,p.getLast? =some y->iF y b<0:=λy hy=>by
  unfold opn at ho;rw[hy]at ho;exact Jv.1 (iw ho)
 refine⟨DN.2 ⟨h.inc,List.pairwise_singleton ..,λa ha b' hb'=>?_⟩,λr hr=>?_,λx hx hc=>?_,?_⟩
 ·rw[bM.1 hb'];cases e:p.getLast? with
  |none=>rw[List.getLast?_eq_none_iff.1 e]at ha;cases ha
  |some y=>
   have h2:=hab y e;rcases Uw h.inc e a ha with rfl|h1
   ·exact h2
   ·exact NC h1 h2
 ·rcases dB.1 hr with hr|hr
  ·exact h.sub r hr
  ·rw[bM.1 hr];exact hb
 ·rw[NJ]at hc;have hc:=mK hc;cases e:opn p x with
  |true=>
   have h1:=hl x hx e;rw[adV]at h1;refine⟨b,by simp,?_,?_⟩
   ·by_cases h2:iF x b<0
    ·exact absurd (.inl h2) h1
    ·omega
   ·intro h2;by_cases h3:iF x b<0
    ·exact h1 (.inl h3)
    ·exact h1 (.inr ⟨by omega,h2⟩)
  |false=>
   obtain⟨r,m,q⟩:=h.done x hx e;exact⟨r,kZ _ m,q⟩
 ·have:=Uv (p:=opn p) (q:=opn (p++[b])) hb ho (by rw[NJ];exact aS (by rw[Jv,zf];omega)) (λx hx=>by
   rw[NJ]at hx;have hx:=iw hx;unfold opn;cases e:p.getLast? with
   |none=>rfl
   |some y=>exact dQ (Jv.2 (NC (hab y e) (Jv.1 hx))))
  have:=h.cnt;omega
end Kd
namespace Kd
open Canon
end Kd
namespace Kd
open Go Go.Ideal Canon Gph
end Kd
namespace Kd
open Go Go.Ideal
theorem NL:∀{a b:List Int},a.Pairwise (·<·)->b.Pairwise (·<·)->(∀x,x∈a↔x∈b)->a=b
 |[],[],_,_,_=>rfl
 |[],y::b,_,_,h=>by have:=(h y).2 (dJ ..);cases this
 |x::a,[],_,_,h=>by have:=(h x).1 (dJ ..);cases this
 |x::a,y::b,ha,hb,h=>by
  have hxy:x=y:=by
   rcases dG.1 ((h x).1 (dJ ..))with e|hx
   ·exact e
   rcases dG.1 ((h y).2 (dJ ..))with e|hy
   ·exact e.symm
   have:=(rq.1 ha).1 y hy;have:=(rq.1 hb).1 x hx;omega
  subst hxy;rw[NL (rq.1 ha).2 (rq.1 hb).2 λz=>?_];constructor
  ·intro hz;have:=(rq.1 ha).1 z hz;exact(dG.1 ((h z).1 (dN _ hz))).resolve_left (by omega)
  ·intro hz;have:=(rq.1 hb).1 z hz;exact(dG.1 ((h z).2 (dN _ hz))).resolve_left (by omega)
theorem adX{n:Nat}{x:Int}:x∈upTo' n↔0<=x/\x<(n:Int):=by
 unfold upTo';rw[eT];constructor
 ·rintro⟨i,hi,rfl⟩;have:=uf.1 hi;omega
 ·intro h;exact⟨x.toNat,uf.2 (by omega),by omega⟩
theorem adY(n:Nat):(upTo' n).Pairwise (·<·):=by
 unfold upTo';rw[BC];exact List.Pairwise.imp (λh=>by omega) List.pairwise_lt_range
def dU(n:Nat)(p:Int->Bool):List Int:=(upTo' n).filter p
theorem adZ{n:Nat}{p:Int->Bool}{x:Int}:x∈dU n p↔(0<=x/\x<(n:Int))/\p x=true:=by
 unfold dU;rw[pI,adX]
theorem Ux(n:Nat)(p:Int->Bool):(dU n p).Pairwise (·<·):=List.Pairwise.filter _ (adY n)
theorem AL(k:Nat)(p:Int->Bool):dU (k+1) p=dU k p++if p (k:Int)then[(k:Int)]else[]:=by
 unfold dU;rw[tN,uk];congr 1;rw[zD];split<;>simp
theorem AO(n:Nat)(p:Int->Bool):(dU n p).length<=n:=by
 unfold dU;refine oU (DK _ _) ?_;rw[oh];exact bU _
theorem Jw{l:List Int}(hi:l.Pairwise (·<·)){n:Nat}{p:Int->Bool}(h:∀x,x∈l↔(0<=x/\x<(n:Int))/\p x=true):l=dU n p:=
 NL hi (Ux n p) λx=>(h x).trans adZ.symm
theorem ad1(n:Nat)(holes:List Int):gJ n holes=dU n λi=>!decide (i∈holes):=rfl
theorem Uy{n:Nat}{holes:List Int}(hi:holes.Pairwise (·<·))(hm:∀x∈holes,0<=x/\x<(n:Int)):dU n (λi=>decide (i∈holes))=holes:=
 (Jw hi λx=>⟨λh=>⟨hm x h,dQ h⟩,λh=>iw h.2⟩).symm
theorem ad3{n:Nat}{holes:List Int}(hi:holes.Pairwise (·<·))(hm:∀x∈holes,0<=x/\x<(n:Int)):(gJ n holes).length+holes.length=n:=by
 have h1:(dU n λi=>decide (i∈holes)).length=holes.length:=by rw[Uy hi hm]
 have h2:=List.length_eq_countP_add_countP (λi:Int=>decide (i∈holes)) (l:=upTo' n);rw[oh,List.countP_eq_length_filter,List.countP_eq_length_filter]at h2;have h3:gJ n holes=List.filter (λa=>decide ¬decide (a∈holes)=true) (upTo' n):=by
  rw[ad1];unfold dU;congr 1;funext i
  by_cases h:i∈holes<;>simp[h]
 rw[h3];unfold dU at h1;omega
structure ad4(s w h:Int)(holes:List Int):Prop where
 sh:s=1\/s=2
 wi:1<=w/\w<=16
 he:1<=h/\h<=16
 inc:holes.Pairwise (·<·)
 mem:∀x∈holes,0<=x/\x<w*h
 ne:mU w h holes≠[]
theorem vU{s w h:Int}{holes:List Int}:ad4 s w h holes↔oM s w h holes:=by
 have key:(1<=w/\w<=16)->(1<=h/\h<=16)->holes.Pairwise (·<·)->(∀x∈holes,0<=x/\x<w*h)->(mU w h holes≠[]↔(holes.length:Int)<w*h):=by
  intro hw hh hi hm;have hb:=xE hw hh;obtain⟨m,hmm⟩:=dZ (show 0<=w*h by omega);rw[hmm]at hm⊢;unfold mU;rw[hmm,ku];have:=ad3 hi hm;rw[<- Dx];omega
 exact⟨λq=>⟨q.sh,q.wi,q.he,(key q.wi q.he q.inc q.mem).1 q.ne,q.inc,q.mem⟩,λq=>⟨q.sh,q.wi,q.he,q.inc,q.mem,(key q.wi q.he q.inc q.mem).2 q.len⟩⟩
def iT(g:bD)(c:Int):Int×Int:=((g.cells[c.toNat]?).map (nO g)).getD (0,0)
theorem CW{g:bD}{k:Nat}{x:Int}(h:g.cells[k]? =some x):iT g (k:Int)=nO g x:=by
 unfold iT;rw[ku,h];rfl
theorem Fy{g:bD}{q:Int×(Int×Int)}:q∈bE g↔(0<=q.1/\q.1<(g.cells.length:Int))/\q.2=iT g q.1:=by
 constructor
 ·intro h;refine⟨Jp q h,?_⟩;obtain⟨k,hk⟩:=vz.1 h;have h1:=xH hk;have hkl:=(bK.1 hk).1;rw[qa]at hkl;have hx:g.cells[k]? =some g.cells[k]:=bN hkl;rw[xG hx]at hk;have hk:=Option.some.inj hk;rw[h1,CW hx,<- hk]
 ·rintro⟨⟨h1,h2⟩,h3⟩;have hkl:q.1.toNat<g.cells.length:=by omega
  have hx:g.cells[q.1.toNat]? =some g.cells[q.1.toNat]:=bN hkl;have h4:=xG hx;rw[show((q.1.toNat:Nat):Int)=q.1 by omega]at h4;have h5:iT g q.1=nO g g.cells[q.1.toNat]:=by
   have:=CW hx
   rwa [show((q.1.toNat:Nat):Int)=q.1 by omega]at this
  rw[<- h5,<- h3]at h4;exact aP h4
def xO(sh:Int)(s t:Int×Int):Bool:=
 if sh=1 then(decide (t.2 - s.2=0)&&(decide (t.1 - s.1=1)||decide (t.1 - s.1= -1)))||(decide (t.1 - s.1=0)&&(decide (t.2 - s.2=1)||decide (t.2 - s.2= -1)))
 else(decide (t.1 - s.1=1)&&decide (t.2 - s.2=0))||(decide (t.1 - s.1= -1)&&decide (t.2 - s.2=0))||(decide (t.1 - s.1=0)&&decide (t.2 - s.2=1))||(decide (t.1 - s.1=0)&&decide (t.2 - s.2= -1))||(decide (t.1 - s.1=1)&&decide (t.2 - s.2= -1))||(decide (t.1 - s.1= -1)&&decide (t.2 - s.2=1))
theorem ad5{g:bD}{s t:Int×Int}:xO g.shape s t=true↔∃d∈eP.take (dS g),t=(s.1+d.1,s.2+d.2):=by
 obtain⟨s1,s2⟩:=s;obtain⟨t1,t2⟩:=t;unfold xO dS;by_cases h:g.shape=1
 ·rw[if_pos h,if_pos h];simp[eP];omega
 ·rw[if_neg h,if_neg h];simp[eP];omega
theorem ad6{g:bD}(hg:fH g){p:Int×(Int×Int)}:lY g p=dU g.cells.length λb=>xO g.shape p.2 (iT g b):=by
 refine Jw (NF hg p) λc=>?_;rw[NE hg,ad5];constructor
 ·rintro⟨d,hd,q,hq,h1,rfl⟩;obtain⟨h2,h3⟩:=Fy.1 hq;exact⟨h2,d,hd,h3▸h1⟩
 ·rintro⟨h2,d,hd,h1⟩;exact⟨d,hd,(c,iT g c),Fy.2 ⟨h2,rfl⟩,h1,rfl⟩
theorem Uz{g:bD}(hg:fH g){k:Nat}(hk:k<g.cells.length):(bO g)[k]? =some (dU g.cells.length λb=>xO g.shape (iT g k) (iT g b)):=by
 unfold bO;have hx:g.cells[k]? =some g.cells[k]:=bN hk;rw[fw,xG hx,ko,ad6 hg,CW hx]
theorem Fh{α β:Type}[DecidableEq α](b:α)(v:β):∀m:List (α×β),(upd b v m).map (·.1)=if b∈m.map (·.1)then m.map (·.1)else m.map (·.1)++[b]
 |[]=>by
  rw[if_neg (by simp)];rfl
 |(a,u)::m=>by
  unfold upd;by_cases e:b=a
  ·rw[if_pos e,if_pos (by rw[e];simp),e];rfl
  ·rw[if_neg e,ik,ik,Fh b v m];by_cases h:b∈m.map (·.1)
   ·rw[if_pos h,if_pos (dN _ h)]
   ·rw[if_neg h,if_neg (by rw[dG,not_or];exact⟨e,h⟩)];rfl
def pF(kf:Int×Int->Int×Bool)(ps:List (Int×(Int×Int)))(n:Int):List Int:=(ps.filter λp=>(kf p.2).2&&decide ((kf p.2).1=n)).map (·.1)
theorem NM(kf:Int×Int->Int×Bool)(ps:List (Int×(Int×Int)))(p:Int×(Int×Int))(n:Int):pF kf (ps++[p]) n=pF kf ps n++if((kf p.2).2&&decide ((kf p.2).1=n))=true then[p.1]else[]:=by
 unfold pF;rw[uk,ed];congr 1;rw[zD];split<;>simp
theorem ad7(kf:Int×Int->Int×Bool)(m:Nat):∀ps:List (Int×(Int×Int)),ps.length=m->((jC kf ps).map (·.1)).Nodup/\∀n,(n∈(jC kf ps).map (·.1)↔pF kf ps n≠[])/\(dL n (jC kf ps)).getD []=pF kf ps n:=by
 induction m with
 |zero=>
  intro ps h;rw[jQ.1 h];exact⟨wz,λn=>⟨by simp[jC,pF],rfl⟩⟩
 |succ m ih=>
  intro ps h;obtain⟨qs,p,rfl⟩:∃qs p,ps=qs++[p]:=⟨ps.dropLast,ps.getLast (by intro e;rw[e]at h;cases h),(BG _).symm⟩
  obtain⟨h1,h2⟩:=ih qs (by simpa using h);rw[Fu];unfold vQ;cases hb:(kf p.2).2 with
  |false=>
   refine⟨h1,λn=>?_⟩;rw[NM,hb,if_neg (by simp),gV];exact h2 n
  |true=>
   dsimp only[cond];rw[Fh];refine⟨?_,λn=>⟨?_,?_⟩⟩
   ·split
    ·exact h1
    ·rename_i hn;rw[iq];exact⟨h1,by simp,λa ha b hb'=>by rw[bM.1 hb'];exact λe=>hn (e▸ha)⟩
   ·rw[NM,hb];by_cases e:(kf p.2).1=n
    ·have hc:(true&&decide ((kf p.2).1=n))=true:=by simp[e]
     rw[if_pos hc];split
     ·rename_i hn;rw[e]at hn;exact⟨λ_=>by simp,λ_=>hn⟩
     ·rw[e];exact⟨λ_=>by simp,λ_=>qp _ (bM.2 rfl)⟩
    ·have hc:¬(true&&decide ((kf p.2).1=n))=true:=by simp[e]
     rw[if_neg hc,gV];split
     ·exact(h2 n).1
     ·rw[dB,(h2 n).1];simp only[bM];exact⟨λh=>h.resolve_right (λx=>e x.symm),.inl⟩
   ·rw[xI,NM,hb];by_cases e:(kf p.2).1=n
    ·rw[if_pos e.symm,if_pos (by simp[e]),vo,(h2 _).2,e]
    ·rw[if_neg (λx=>e x.symm),if_neg (by simp[e]),gV];exact(h2 n).2
theorem UA{g:bD}(kf:Int×Int->Int×Bool)(n:Int):pF kf (bE g) n=dU g.cells.length λc=>(kf (iT g c)).2&&decide ((kf (iT g c)).1=n):=by
 refine Jw ?_ λc=>?_
 ·unfold pF;rw[BC];refine List.Pairwise.filter _ ?_;rw[zH];intro i j hi hj hij;have h1:=xH (bN hi);have h2:=xH (bN hj);rw[h1,h2];omega
 ·unfold pF;rw[eT];constructor
  ·rintro⟨p,hp,rfl⟩;obtain⟨h1,h2⟩:=pI.1 hp;obtain⟨h3,h4⟩:=Fy.1 h1;rw[<- h4];exact⟨h3,h2⟩
  ·rintro⟨h1,h2⟩;exact⟨(c,iT g c),pI.2 ⟨Fy.2 ⟨h1,rfl⟩,h2⟩,rfl⟩
def vV(lo:Int)(k:Nat):List Int:=(List.range k).map λi:Nat=>lo+(i:Int)
theorem ad8(lo:Int)(k:Nat):vV lo (k+1)=vV lo k++[lo+(k:Int)]:=by
 unfold vV;rw[Gj,ed];rfl
theorem ad9{lo:Int}{k:Nat}{x:Int}:x∈vV lo k↔lo<=x/\x<lo+(k:Int):=by
 unfold vV;rw[eT];constructor
 ·rintro⟨i,hi,rfl⟩;have:=uf.1 hi;omega
 ·intro h;exact⟨(x - lo).toNat,uf.2 (by omega),by omega⟩
theorem aea(lo:Int)(k:Nat):(vV lo k).Pairwise (·<·):=by
 unfold vV;rw[BC];exact List.Pairwise.imp (λh=>by omega) List.pairwise_lt_range
def zg(L:Int->List Int)(lo:Int)(k:Nat):List (List Int):=((vV lo k).map L).filter λl=>!l.isEmpty
theorem UB(L:Int->List Int)(lo:Int)(k:Nat):zg L lo (k+1)=zg L lo k++if L (lo+(k:Int))=[]then[]else[L (lo+(k:Int))]:=by
 unfold zg;rw[ad8,ed,uk];congr 1;rw[oW,zD];cases h:L (lo+(k:Int))with
 |nil=>rfl
 |cons x l=>simp
theorem UC{g:bD}(kf:Int×Int->Int×Bool){lo:Int}{k:Nat}(hk:∀p∈bE g,(kf p.2).2=true->lo<=(kf p.2).1/\(kf p.2).1<lo+(k:Int)):jg g kf=zg (pF kf (bE g)) lo k:=by
 obtain⟨h1,h2⟩:=ad7 kf _ (bE g) rfl;have h3:dD ((jC kf (bE g)).map (·.1))=(vV lo k).filter λn=>!(pF kf (bE g) n).isEmpty:=by
  refine NL (Jt h1) (List.Pairwise.filter _ (aea lo k)) λn=>?_;rw[vR,(h2 n).1,pI,ad9];have hne:((!(pF kf (bE g) n).isEmpty)=true)↔pF kf (bE g) n≠[]:=by
   cases pF kf (bE g) n<;>simp
  rw[hne];refine⟨λh=>⟨?_,h⟩,λh=>h.2⟩;obtain⟨c,hc⟩:=List.exists_mem_of_ne_nil _ h;unfold pF at hc;obtain⟨p,hp,_⟩:=eT.1 hc;obtain⟨hp1,hp2⟩:=pI.1 hp;simp only[iC,yu]at hp2;rw[<- hp2.2];exact hk p hp1 hp2.1
 unfold jg zg;rw[h3,List.filter_map];refine Pw λn _=>?_;exact(h2 n).2
theorem UD{g:bD}(c:Int×Int->Bool):jg g (λs=>(0,c s))=if dU g.cells.length (λb=>c (iT g b))=[]then[]else[dU g.cells.length λb=>c (iT g b)]:=by
 rw[UC (lo:=0) (k:=1) (λs=>(0,c s)) (λp _ _=>⟨Int.le_refl 0,by omega⟩)];rw[show(1:Nat)=0+1 from rfl,UB];have e:pF (λs=>(0,c s)) (bE g) (0+((0:Nat):Int))=dU g.cells.length λb=>c (iT g b):=by
  rw[UA];congr 1;funext b
  simp
 rw[e];rfl
theorem aeb{g:bD}(hg:fH g){k:Nat}{l:List Int}(hl:(bO g)[k]? =some l):dD (l++[(k:Int)])=dU g.cells.length λb=>decide (b=(k:Int))||decide (b∈l):=by
 have hk:k<g.cells.length:=by have:=(bK.1 hl).1;rwa [vP]at this
 have hls:∀c∈l,(0<=c/\c<(g.cells.length:Int)):=(Jq l (aP hl)).2;have hlt:l.Pairwise (·<·):=by
  have:=Uz hg hk;rw[hl]at this;rw[Option.some.inj this];exact Ux _ _
 have hkl:(k:Int)∉l:=λh=>by
  obtain⟨j,hj⟩:=vz.1 h;exact(NG hg k l hl j k hj).2.2.1 rfl
 refine Jw (Jt ?_) λc=>?_
 ·rw[iq];exact⟨hlt.imp (λh=>by omega),by simp,λa ha b hb=>by rw[bM.1 hb];exact λe=>hkl (e▸ha)⟩
 ·rw[vR,dB,bM];simp only[yo,yu];constructor
  ·rintro(h|rfl)
   ·exact⟨hls c h,.inr h⟩
   ·exact⟨by omega,.inl rfl⟩
  ·rintro⟨_,h|h⟩
   ·exact .inr h
   ·exact .inl h
