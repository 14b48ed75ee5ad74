/-
  Part PlainCX.
-/
import Derived.Test.YtoilpafpgndilaaGreatPlainBX
import Derived.Test.YtoilpafpgndilaaGreatPlainAX
set_option linter.all false
namespace Kd
open Go Go.Ideal Canon
def bO:Enc Clue:=⟨3,Value,λg v=>[.int .i64 g.aL,.int .i64 g.at_,v],λg v=>[ai ae v g.values],λ_ _=>rfl⟩
abbrev wy(g:Clue)(v:Value):Value:=.agg ⟨[.int .i64 g.aL,.int .i64 g.at_,v]⟩
def uW:List Int->Int
 |[]=>0
 |a::l=>if a≠0 then a else uW l
def gJ(a b:Clue):Int:=uW [eU a.aL b.aL,eU a.at_ b.at_]
theorem Uy(a b:Clue):gJ a b=fK eU [a.aL,a.at_] [b.aL,b.at_]:=by
 unfold gJ;simp only[uW,fK]
theorem uX{a b:Clue}:gJ a b<0↔a.aL<b.aL\/(a.aL=b.aL/\a.at_<b.at_):=by
 unfold gJ eU;simp only[uW];split<;>split at *<;>(try split at *)<;>(try split at *)<;>(try split at *)<;>omega
theorem Ns{a b c:Clue}(h1:gJ a b<0)(h2:gJ b c<0):gJ a c<0:=by
 rw[uX]at *;omega
def mY(k:bD)(g:Clue):Prop:=∃(c:gW) (l:List (List Int)),0<=g.aL/\k.decl.aJ[g.aL.toNat]? =some c/\k.lists[c.family.toNat]? =some l/\0<=g.at_/\g.at_<l.length/\
 ((c.type=1/\g.values.length=1/\∀x∈g.values,0<=x/\x<=(k.decl.symbols.length:Int) - 1)\/(c.type=2/\g.values.length=1/\∀x∈g.values,c.lo<=x/\x<=c.hi)\/
   (c.type≠1/\c.type≠2/\g.values.length<=8/\∀x∈g.values,1<=x/\x<=256))
structure gX(k:bD)(p:List Clue):Prop where
 len:p.length<=512
 right:∀g∈p,mY k g
 sorted:∀(i:Nat) a b,p[i]? =some a->p[i+1]? =some b->gJ a b<0
def Fq(k:bD):Prop:=∀c∈k.decl.aJ,0<=c.family/\c.family<k.lists.length
end Kd
namespace Kd
open Go Go.Ideal Canon
def Nt(k:bD)(i:Int):Int:=match k.decl.aJ[i.toNat]? with|some c=>c.family|none=>0
def nR(k:bD)(g:Clue):List Int:=(k.lists.getD (Nt k g.aL).toNat []).getD g.at_.toNat []
def Jm(k:bD)(p:List Clue)(r:bN):List (List Int×List Int):=
 if r.aL<0 then(k.lists.getD r.family.toNat []).map λl=>(l,[r.n])else(p.filter λg=>decide (g.aL=r.aL)).map λg=>(nR k g,g.values)
theorem j5{α:Type}{l:List α}{n:Nat}{x d:α}(h:l[n]? =some x):l.getD n d=x:=by simp[List.getD,h]
theorem mY.cells{k:bD}{g:Clue}(h:mY k g):∃(c:gW) (l:List (List Int)) (ps:List Int),k.decl.aJ[g.aL.toNat]? =some c/\k.lists[c.family.toNat]? =some l/\l[g.at_.toNat]? =some ps/\0<=g.aL/\0<=g.at_/\g.at_<l.length/\nR k g=ps:=by
 obtain⟨c,l,h1,h2,h3,h4,h5,_⟩:=h;have h6:l[g.at_.toNat]? =some (l[g.at_.toNat]'(by omega)):=bP _;refine⟨c,l,_,h2,h3,h6,h1,h4,h5,?_⟩;unfold nR Nt;rw[h2];dsimp only;rw[j5 h3,j5 h6]
end Kd
namespace Kd
open Go Go.Ideal Canon
def aB(grid:List Int)(c:Int):Int:=grid.getD c.toNat 0
theorem ji{grid:List Int}{n:Nat}{x:Int}(h:grid[n]? =some x):aB grid (n:Int)=x:=by unfold aB;exact j5 h
end Kd
namespace Kd
open Go Go.Ideal
def Fs(n:Nat)(l:List Int):Prop:=l.length<=4096/\∀c∈l,0<=c/\c<(n:Int)
theorem Jn{g:bz}:∀p∈bB g,0<=p.1/\p.1<(g.cells.length:Int):=by
 intro p hp;obtain⟨k,hk⟩:=uy.1 hp;have hkl:=(bq.1 hk).1;rw[qK]at hkl;have:=xR hk;omega
theorem adY(kf:Int×Int->Int×Bool)(n:Nat):∀ps:List (Int×(Int×Int)),ps.length=n->∀a,∀c∈(dR a (jN kf ps)).getD [],∃p∈ps,p.1=c:=by
 induction n with
 |zero=>
  intro ps h a c hc;rw[jy.1 h]at hc;have hc:c∈([]:List Int):=hc;cases hc
 |succ n ih=>
  intro ps h a c hc;obtain⟨qs,p,rfl⟩:∃qs p,ps=qs++[p]:=⟨ps.dropLast,ps.getLast (by intro e;rw[e]at h;cases h),(yF _).symm⟩
  have hq:qs.length=n:=by simpa using h
  have hih:∀a,∀c∈(dR a (jN kf qs)).getD [],∃p'∈qs++[p],p'.1=c:=λa c hc=>by
   obtain⟨q,h1,h2⟩:=ih qs hq a c hc;exact⟨q,je _ h1,h2⟩
  rw[Ji]at hc;unfold xS at hc;cases hb:(kf p.2).2 with
  |false=>
   rw[hb]at hc;exact hih a c hc
  |true=>
   rw[hb]at hc;have hc:c∈(dR a (upd (kf p.2).1 ((dR (kf p.2).1 (jN kf qs)).getD []++[p.1]) (jN kf qs))).getD []:=hc;rw[zh]at hc;by_cases e:a=(kf p.2).1
   ·rw[if_pos e,wQ]at hc;rcases dX.1 hc with hc|hc
    ·exact hih _ c hc
    ·exact⟨p,by simp,(bM.1 hc).symm⟩
   ·rw[if_neg e]at hc;exact hih a c hc
theorem Fu{g:bz}(hg:fE g)(kf:Int×Int->Int×Bool):∀l∈jd g kf,Fs g.cells.length l:=by
 intro l hl;have hlen:=(Nj hg kf).2 l hl;refine⟨by omega,λc hc=>?_⟩;unfold jd at hl;obtain⟨n,_,rfl⟩:=eT.1 hl;obtain⟨p,hp,rfl⟩:=adY kf _ (bB g) rfl n c hc;exact Jn p hp
theorem Uz{a b:List (List Int)}{l:List Int}(h:l∈jO a b):l∈a\/l∈b:=by
 unfold jO at h;induction b generalizing a with
 |nil=>exact .inl h
 |cons x b ih=>
  rw[wO]at h;rcases ih h with h|h
  ·unfold uf at h;split at h
   ·exact .inl h
   ·rcases dX.1 h with h|h
    ·exact .inl h
    ·exact .inr (by rw[bM.1 h];simp)
  ·exact .inr (cO _ h)
theorem UA{o:Option Value}{n:Int}(h:numOf o=some n):o=some (.int .i64 n):=by
 unfold numOf at h;split at h
 ·cases h;rfl
 ·cases h
theorem adZ{g:bz}{p:Int×(Int×Int)}:Fs g.cells.length (lX g p):=by
 unfold lX;refine⟨?_,λc hc=>?_⟩
 ·have h1:(bW (gu (fC (bB g)) p.2 (eO.take (dV g)))).length=(gu (fC (bB g)) p.2 (eO.take (dV g))).length:=(zT _ _).length_eq;have h2:=Jf (fC (bB g)) p.2 (eO.take (dV g));have h3:=A8 g;rw[gT]at h2;omega
 ·rw[uU]at hc;unfold gu at hc;obtain⟨d,_,hd⟩:=Kk.1 hc;obtain⟨c',h1,q,hq,h2⟩:=Uk _ _ (UA hd);injection h1 with _ h1;rw[h1,<- h2];exact Jn q hq
theorem Fv{g:bz}:∀l∈bJ g,Fs g.cells.length l:=by
 intro l hl;obtain⟨p,_,rfl⟩:=eT.1 hl;exact adZ
theorem ad1(l:List Int):(bW l).length=l.length:=(zT l _).length_eq
theorem ad3{g:bz}(hg:fE g)(k:Int):∀l∈dM g k,Fs g.cells.length l:=by
 have hlen:=hg.len;have hnl:=wm g;have hnm:=Nq (g:=g);intro l hl;unfold dM at hl;split at hl
 ·unfold kW at hl;obtain⟨i,hi,rfl⟩:=eT.1 hl;have:=ol.1 hi;exact⟨by simp,λc hc=>by rw[bM.1 hc];omega⟩
 split at hl
 ·exact Fu hg _ l hl
 split at hl
 ·exact Fu hg _ l hl
 split at hl
 ·unfold lY at hl;split at hl
  ·exact Fu hg _ l hl
  split at hl
  ·rcases Uz hl with hl|hl
   ·exact Fu hg _ l hl
   ·exact Fu hg _ l hl
  ·cases hl
 split at hl
 ·exact Fv l hl
 split at hl
 ·unfold l5 at hl;obtain⟨⟨x,i⟩,hx,rfl⟩:=eT.1 hl;have hx:=zU.1 hx;have hxm:=aZ hx;have hi:=(bq.1 hx).1;have h6:=hnm x hxm;refine⟨by rw[ad1];simp;omega,λc hc=>?_⟩;rw[uU]at hc;rcases dX.1 hc with hc|hc
  ·exact(Fv x hxm).2 c hc
  ·rw[bM.1 hc];dsimp only;omega
 split at hl
 ·unfold ik at hl;obtain⟨⟨x,i⟩,hx,hl⟩:=List.mem_flatMap.1 hl;have hx:=zU.1 hx;have hxm:=aZ hx;have hi:=(bq.1 hx).1;unfold jh at hl;obtain⟨j,hj,rfl⟩:=eT.1 hl;have hj:=(sP.1 hj).1;refine⟨by simp,λc hc=>?_⟩;simp only[dx,Kj,or_false]at hc;rcases hc with rfl|rfl
  ·omega
  ·exact(Fv x hxm).2 _ hj
 ·rw[bM.1 hl];refine⟨by rw[lZ];omega,λc hc=>?_⟩;unfold upTo' at hc;obtain⟨i,hi,rfl⟩:=eT.1 hc;have:=ol.1 hi;omega
theorem ad4{g:bz}(hg:fE g){rs:List (List Int)}(hr:CZ g rs):∀l∈dW g rs,Fs g.cells.length l:=by
 intro l hl;obtain⟨ps,hps,rfl⟩:=eT.1 hl;have hP:=hr.all ps hps;have h1:=Jl hP.mem hP.nd;have h2:=hg.len;refine⟨by unfold eZ;rw[bY];omega,λc hc=>?_⟩;obtain⟨p,hp,rfl⟩:=eT.1 hc;have:=Nr (hP.mem p hp);omega
theorem ad5{g:bz}(hw:1<=g.w){x y:Int}(hx:0<=x)(hy:0<=y)(h:nM g x=nM g y):x=y:=by
 unfold nM at h;have h1:=congrArg Prod.fst h;have h2:=congrArg Prod.snd h;dsimp only at h1 h2;rw[uz hx,uz hy]at h2;rw[uz hx,uz hy,DJ hx,DJ hy,h2]at h1;have h3:x%g.w=y%g.w:=by
  split at h1<;>omega
 have e1:=PS x g.w;have e2:=PS y g.w;rw[h2,h3]at e1;omega
theorem Fw{g:bz}(hg:fE g){p q:Int×(Int×Int)}(hp:p∈bB g)(hq:q∈bB g)(h:p.1=q.1\/p.2=q.2):p=q:=by
 obtain⟨k,hk⟩:=uy.1 hp;obtain⟨j,hj⟩:=uy.1 hq;have hkl:=(bq.1 hk).1;have hjl:=(bq.1 hj).1;rw[qK]at hkl hjl;rcases h with h|h
 ·have h1:=xR hk;have h2:=xR hj;have:k=j:=by omega
  subst this;rw[hk]at hj;exact Option.some.inj hj
 ·have hx:g.cells[k]? =some g.cells[k]:=bP hkl;have hy:g.cells[j]? =some g.cells[j]:=bP hjl;have hkk:=hk;have hjj:=hj;rw[zg hx]at hk;rw[zg hy]at hj;have hk:=Option.some.inj hk;have hj:=Option.some.inj hj;have hs:nM g g.cells[k]=nM g g.cells[j]:=by rw[<- hk,<- hj]at h;exact h
  have he:=ad5 (by have:=hg.make.wi;omega) (hg.cell _ (vF _)).1 (hg.cell _ (vF _)).1 hs;have l6:g.cells.Pairwise (·<·):=by rw[hg.cells];exact Je _ _
  have hkj:k=j:=by
   apply Classical.byContradiction;intro hne;have:=wT.1 l6;rcases Nat.lt_or_gt_of_ne hne with hl|hl
   ·have:=this k j hkl hjl hl;omega
   ·have:=this j k hjl hkl hl;omega
  subst hkj;rw[hkk]at hjj;exact Option.some.inj hjj
theorem ad6(n:Nat):∀xs:List (Int×(Int×Int)),xs.length=n->(∀p∈xs,∀q∈xs,p.2=q.2->p=q)->∀p∈xs,dR p.2 (fC xs)=some (.int .i64 p.1):=by
 induction n with
 |zero=>intro xs h _ p hp;rw[jy.1 h]at hp;cases hp
 |succ n ih=>
  intro xs h hi p hp;obtain⟨ys,q,rfl⟩:∃ys q,xs=ys++[q]:=⟨xs.dropLast,xs.getLast (by intro e;rw[e]at h;cases h),(yF _).symm⟩
  rw[Ng,zh];by_cases e:p.2=q.2
  ·have:=hi p hp q (by simp) e;subst this;rw[if_pos rfl]
  ·rw[if_neg e];refine ih ys (by simpa using h) (λa ha b hb=>hi a (je _ ha) b (je _ hb)) p ?_;rcases dX.1 hp with hp|hp
   ·exact hp
   ·rw[bM.1 hp]at e;exact absurd rfl e
theorem ad7(n:Nat):∀xs:List (Int×(Int×Int)),xs.length=n->∀a v,dR a (fC xs)=some v->∃p∈xs,p.2=a/\v=.int .i64 p.1:=by
 induction n with
 |zero=>
  intro xs h a v hv;rw[jy.1 h]at hv;cases hv
 |succ n ih=>
  intro xs h a v hv;obtain⟨ys,q,rfl⟩:∃ys q,xs=ys++[q]:=⟨xs.dropLast,xs.getLast (by intro e;rw[e]at h;cases h),(yF _).symm⟩
  rw[Ng,zh]at hv;by_cases e:a=q.2
  ·rw[if_pos e]at hv;exact⟨q,by simp,e.symm,(Option.some.inj hv).symm⟩
  ·rw[if_neg e]at hv;obtain⟨p,h1,h2⟩:=ih ys (by simpa using h) a v hv;exact⟨p,je _ h1,h2⟩
theorem Jo{g:bz}(hg:fE g){s:Int×Int}{d:Int×Int}{n:Int}:numOf (dR (s.1+d.1,s.2+d.2) (fC (bB g)))=some n↔∃q∈bB g,q.2=(s.1+d.1,s.2+d.2)/\q.1=n:=by
 constructor
 ·intro h;obtain⟨q,hq,h1,h2⟩:=ad7 _ (bB g) rfl _ _ (UA h);injection h2 with _ h2;exact⟨q,hq,h1,h2.symm⟩
 ·rintro⟨q,hq,h1,h2⟩;rw[<- h1,ad6 _ (bB g) rfl (λa ha b hb e=>Fw hg ha hb (.inr e)) q hq,<- h2];rfl
theorem Nu{g:bz}(hg:fE g){p:Int×(Int×Int)}{n:Int}:n∈lX g p↔∃d∈eO.take (dV g),∃q∈bB g,q.2=(p.2.1+d.1,p.2.2+d.2)/\q.1=n:=by
 unfold lX;rw[uU];unfold gu;rw[Kk];constructor
 ·rintro⟨d,hd,h⟩;exact⟨d,hd,(Jo hg).1 h⟩
 ·rintro⟨d,hd,h⟩;exact⟨d,hd,(Jo hg).2 h⟩
theorem UB(g:bz):dV g=4\/dV g=6:=by unfold dV;split<;>simp
theorem ad8{m:Nat}(hm:m=4\/m=6):∀d∈eO.take m,(-d.1, -d.2)∈eO.take m:=by
 rcases hm with rfl|rfl<;>decide
theorem ad9{m:Nat}:∀d∈eO.take m,¬(d.1=0/\d.2=0):=by
 intro d hd;have:=BJ hd;revert d;have:∀d∈eO,¬(d.1=0/\d.2=0):=by decide
 intro d _ hd;exact this d hd
theorem aea{m:Nat}(hm:m=4\/m=6):(eO.take m).Nodup:=by
 rcases hm with rfl|rfl<;>decide
theorem Nv(l:List Int):(bW l).Pairwise (λx y=>x<=y):=by
 have:=XL (le:=λx y:Int=>decide (x<=y)) (λa b c h1 h2=>by simp at h1 h2⊢;omega) (λa b=>by simp;omega) l;exact this.imp (λh=>by simpa using h)
theorem Jp{l:List Int}(h:l.Nodup):(bW l).Pairwise (·<·):=by
 have h1:=Nv l;have h2:(bW l).Nodup:=(zT l _).symm.nodup h;have h3:(bW l).Pairwise (λx y=>x<=y/\x≠y):=List.Pairwise.and h1 h2;exact h3.imp (λh=>by omega)
theorem Nw{g:bz}(hg:fE g)(p:Int×(Int×Int)):(lX g p).Pairwise (·<·):=by
 unfold lX;refine Jp ?_;unfold gu;refine List.Pairwise.filterMap _ ?_ (aea (UB g));intro d1 d2 hne b hb b' hb' e;subst e;obtain⟨q1,h1,h2,h3⟩:=(Jo hg).1 hb;obtain⟨q2,k1,k2,k3⟩:=(Jo hg).1 hb';have:=Fw hg h1 k1 (.inl (by rw[h3,k3]));subst this;rw[h2]at k2;apply hne;have e1:=congrArg Prod.fst k2;have e2:=congrArg Prod.snd k2;dsimp only at e1 e2;exact Prod.ext (by omega) (by omega)
theorem aeb{g:bz}(hg:fE g)(i:Nat)(l:List Int)(hl:(bJ g)[i]? =some l)(k:Nat)(n:Int)(hn:l[k]? =some n):
 0<=n/\n<(bJ g).length/\n≠i/\(∀m,0<k->l[k - 1]? =some m->m<n)/\∀l',(bJ g)[n.toNat]? =some l'->(i:Int)∈l':=by
 have hnm:=wm g;unfold bJ at hl;rw[dm]at hl;obtain⟨p,hp,rfl⟩:=kg.1 hl;have hp1:=xR hp;have hpm:=aZ hp;obtain⟨d,hd,q,hq,hq2,hq1⟩:=(Nu hg).1 (aZ hn);have hqi:=Jn q hq;refine⟨by omega,by omega,λe=>?_,λm hk hm=>?_,λl' hl'=>?_⟩
 ·have:q=p:=Fw hg hq hpm (.inl (by omega));subst this;have e1:=congrArg Prod.fst hq2;have e2:=congrArg Prod.snd hq2;dsimp only at e1 e2;exact ad9 d hd ⟨by omega,by omega⟩
 ·have hlt:=Nw hg p;obtain⟨a1,a2⟩:=bq.1 hm;obtain⟨b1,b2⟩:=bq.1 hn;have:=wT.1 hlt (k - 1) k a1 b1 (by omega);rw[a2,b2]at this;exact this
 ·unfold bJ at hl';rw[dm]at hl';obtain⟨q',hq',rfl⟩:=kg.1 hl';have h1:=xR hq';have:q'=q:=Fw hg (aZ hq') hq (.inl (by omega));subst this;rw[Nu hg];refine⟨(-d.1, -d.2),ad8 (UB g) d hd,p,hpm,?_,hp1⟩;rw[hq2];dsimp only;exact Prod.ext (by dsimp only;omega) (by dsimp only;omega)
end Kd
namespace Kd
open Go Go.Ideal Canon Gph
end Kd
namespace Kd
open Go Go.Ideal Canon Gph
end Kd
namespace Kd
open Go Go.Ideal Canon Gph
theorem UC(n:Nat):(upTo' n).Nodup:=by
 unfold upTo';refine List.Pairwise.map _ (λa b h=>?_) List.nodup_range;intro e;apply h;omega
theorem UD{n i:Nat}{x:Int}(h:(upTo' n)[i]? =some x):x=i:=by
 unfold upTo' at h;rw[dm]at h;obtain⟨j,hj,rfl⟩:=kg.1 h;have:=bq.1 hj;obtain⟨h1,h2⟩:=this;rw[List.getElem_range]at h2;omega
theorem aec{g:bz}(hg:fE g)(p:Int×(Int×Int)):(lX g p).Nodup:=(Nw hg p).imp (λh=>by omega)
theorem aed{l:List Int}(h:l.Nodup):(bW l).Nodup:=(Jp h).imp (λh=>by omega)
theorem aee{aQ:List (List Int)}{l:List Int}(h:l∈ik aQ):∃(i:Nat) (x:List Int) (j:Int),aQ[i]? =some x/\j∈x/\(i:Int)<j/\l=[(i:Int),j]:=by
 unfold ik at h;obtain⟨⟨x,i⟩,hx,hl⟩:=List.mem_flatMap.1 h;unfold jh at hl;obtain⟨j,hj,rfl⟩:=eT.1 hl;obtain⟨h1,h2⟩:=sP.1 hj;exact⟨i,x,j,zU.1 hx,h1,iI h2,rfl⟩
end Kd
namespace Kd
open Go Go.Ideal Canon Gph
theorem Ny{k:bD}{p:List Clue}(h:gX k p):∀(d i:Nat) a b,p[i]? =some a->p[i+1+d]? =some b->gJ a b<0
 |0,i,a,b,ha,hb=>h.sorted i a b ha hb
 |d+1,i,a,b,ha,hb=>by
  have hlt:=(bq.1 hb).1;have hc:p[i+1+d]? =some (p[i+1+d]'(by omega)):=bP _;exact Ns (Ny h d i a _ ha hc) (h.sorted (i+1+d) _ b hc hb)
theorem aef{k:bD}{p:List Clue}(h:gX k p){a b:Clue}(ha:a∈p)(hb:b∈p)(h1:a.aL=b.aL)(h2:a.at_=b.at_):a=b:=by
 obtain⟨i,hi⟩:=jS ha;obtain⟨j,hj⟩:=jS hb;rcases PT i j with hl|hl|hl
 ·have:=uX.1 (Ny h (j - (i+1)) i a b hi (by rw[show i+1+(j - (i+1))=j by omega];exact hj));omega
 ·subst hl;rw[hi]at hj;exact Option.some.inj hj
 ·have:=uX.1 (Ny h (i - (j+1)) j b a hj (by rw[show j+1+(i - (j+1))=i by omega];exact hi));omega
end Kd
namespace Kd
open Go Go.Ideal
theorem Nz:∀{l m:List Int},l.Nodup->(∀x∈l,x∈m)->l.length<=m.length
 |[],m,_,_=>bR _
 |a::l,m,hd,hs=>by
  have ha:=hs a (cB ..);have h1:=PU ha;have hp:0<m.length:=PV ha;have:=Nz (l:=l) (m:=m.erase a) (yD.1 hd).2 (λx hx=>by
   have hne:x≠a:=λe=>(yD.1 hd).1 (e▸hx);exact(PW hne).2 (hs x (cO _ hx)))
  rw[oP];omega
end Kd
namespace Kd
open Go Go.Ideal Canon Gph
end Kd
namespace Kd
open Canon
theorem zl{a b:Clue}:gJ a b=0↔a.aL=b.aL/\a.at_=b.at_:=by
 unfold gJ eU;simp only[uW];split<;>split at *<;>(try split at *)<;>(try split at *)<;>(try split at *)<;>omega
theorem aeg(a b:Clue):nW a b=if gJ a b≠0 then gJ a b else fK eU a.values b.values:=by
 rw[abv,<- Uy]
theorem aeh{a b:Clue}:nW a b<0↔gJ a b<0\/(gJ a b=0/\fK eU a.values b.values<0):=by
 rw[aeg];split<;>omega
structure l7(xs rs:List Clue):Prop where
 inc:rs.Pairwise λa b=>gJ a b<0
 sub:∀r∈rs,r∈xs
 all:∀x∈xs,∃r∈rs,gJ x r=0/\¬fK eU x.values r.values<0
theorem aei{rs:List Clue}(h:rs.Pairwise λa b=>gJ a b<0){a b:Clue}(ha:a∈rs)(hb:b∈rs)(he:gJ a b=0):a=b:=by
 induction h with
 |nil=>cases ha
 |cons h1 _ ih=>
  rcases dx.1 ha with e1|ha'<;>rcases dx.1 hb with e2|hb'
  ·rw[e1,e2]
  ·have:=h1 b hb';rw[<- e1]at this;omega
  ·have:=h1 a ha';rw[<- e2]at this;rw[zl]at he;rw[uX]at this;omega
  ·exact ih ha' hb'
theorem l7.mem{xs rs rs':List Clue}(h:l7 xs rs)(h':l7 xs rs'){r:Clue}(hr:r∈rs):r∈rs':=by
 obtain⟨r2,m2,p2,v2⟩:=h'.all r (h.sub r hr);obtain⟨r1,m1,p1,v1⟩:=h.all r2 (h'.sub r2 m2);have h3:gJ r r1=0:=by rw[zl]at *;omega
 have:=aei h.inc hr m1 h3;subst this;have hO:=xK xJ;have h4:fK eU r.values r2.values=0:=by
  have:=hO.neg r2.values r.values;have:=hO.neg r.values r2.values;omega
 have h5:=(hO.zero _ _).1 h4;rw[zl]at p2;have:r=r2:=by cases r;cases r2;simp_all
 rw[this];exact m2
theorem UE:∀{a b:List Clue},(a.Pairwise λx y=>gJ x y<0)->(b.Pairwise λx y=>gJ x y<0)->(∀x,x∈a↔x∈b)->a=b
 |[],[],_,_,_=>rfl
 |[],y::b,_,_,h=>absurd ((h y).2 (cB ..)) (by simp)
 |x::a,[],_,_,h=>absurd ((h x).1 (cB ..)) (by simp)
 |x::a,y::b,ha,hb,h=>by
  obtain⟨a1,a2⟩:=qx.1 ha;obtain⟨b1,b2⟩:=qx.1 hb;have hxy:x=y:=by
   rcases dx.1 ((h x).1 (cB ..))with e|e
   ·exact e
   ·rcases dx.1 ((h y).2 (cB ..))with e'|e'
    ·exact e'.symm
    ·have q1:=b1 x e;have q2:=a1 y e';rw[uX]at q1 q2;omega
  subst hxy;have UF:∀z:Clue,¬gJ z z<0:=λz h=>by rw[uX]at h;omega
  rw[UE a2 b2 λz=>⟨λhz=>?_,λhz=>?_⟩]
  ·rcases dx.1 ((h z).1 (cO _ hz))with e|e
   ·subst e;exact absurd (a1 z hz) (UF z)
   ·exact e
  ·rcases dx.1 ((h z).2 (cO _ hz))with e|e
   ·subst e;exact absurd (b1 z hz) (UF z)
   ·exact e
theorem l7.uniq{xs rs rs':List Clue}(h:l7 xs rs)(h':l7 xs rs'):rs=rs':=UE h.inc h'.inc λr=>⟨h.mem h',h'.mem h⟩
theorem l7.aej{xs xs' rs:List Clue}(h:l7 xs rs)(h1:∀x,x∈xs'↔x∈xs):l7 xs' rs:=⟨h.inc,λr hr=>(h1 r).2 (h.sub r hr),λx hx=>h.all x ((h1 x).1 hx)⟩
theorem l7.self{xs rs:List Clue}(h:l7 xs rs):l7 rs rs:=⟨h.inc,λ_ h=>h,λx hx=>⟨x,hx,by rw[zl];exact⟨rfl,rfl⟩,by have:=((xK xJ).zero x.values x.values).2 rfl;omega⟩⟩
def opn(p:List Clue)(x:Clue):Bool:=match p.getLast? with
 |none=>true
 |some y=>decide (0<gJ x y)
theorem NA{p:List Clue}{b x:Clue}:opn (p++[b]) x=decide (0<gJ x b):=by
 unfold opn;rw[List.getLast?_append];rfl
theorem Jq{a b:Clue}:0<gJ a b↔gJ b a<0:=by
 rw[uX];unfold gJ eU;simp only[uW];split<;>split at *<;>(try split at *)<;>(try split at *)<;>(try split at *)<;>omega
structure NB(l p:List Clue)(n:Nat):Prop where
 inc:p.Pairwise λa b=>gJ a b<0
 sub:∀r∈p,r∈l
 done:∀x∈l,opn p x=false->∃r∈p,gJ x r=0/\¬fK eU x.values r.values<0
 cnt:l.countP (opn p)+n<=l.length
theorem UG{α:Type}{p q:α->Bool}:∀{l:List α} {b:α},b∈l->p b=true->q b=false->(∀x,q x=true->p x=true)->l.countP q+1<=l.countP p
 |x::l,b,hb,h1,h2,h3=>by
  rw[List.countP_cons,List.countP_cons];rcases dx.1 hb with rfl|hb
  ·have:=List.countP_mono_left (l:=l) (p:=q) (q:=p) λx _=>h3 x;rw[h1,h2];simp only[if_true];simp;omega
  ·have:=UG hb h1 h2 h3;by_cases e:q x=true
   ·rw[if_pos e,if_pos (h3 x e)];omega
   ·rw[if_neg e];omega
theorem UH:∀{p:List Clue} {y:Clue},(p.Pairwise λa b=>gJ a b<0)->p.getLast? =some y->∀a∈p,a=y\/gJ a y<0
 |[],y,_,h,a,ha=>by cases ha
 |[x],y,_,h,a,ha=>by
  cases h;exact .inl (bM.1 ha)
 |x::z::p,y,hp,h,a,ha=>by
  obtain⟨h1,h2⟩:=qx.1 hp;have h':(z::p).getLast? =some y:=by rw[List.getLast?_cons_cons]at h;exact h
  rcases dx.1 ha with rfl|ha
  ·exact .inr (h1 y (List.mem_of_getLast? h'))
  ·exact UH h2 h' a ha
theorem NB.step{l p:List Clue}{n:Nat}{b:Clue}(h:NB l p n)(hb:b∈l)(ho:opn p b=true)(hl:∀x∈l,opn p x=true->¬nW x b<0):NB l (p++[b]) (n+1):=by
 have hab:∀y,p.getLast? =some y->gJ y b<0:=λy hy=>by
  unfold opn at ho;rw[hy]at ho;exact Jq.1 (iI ho)
 refine⟨Kq.2 ⟨h.inc,List.pairwise_singleton ..,λa ha b' hb'=>?_⟩,λr hr=>?_,λx hx hc=>?_,?_⟩
 ·rw[bM.1 hb'];cases e:p.getLast? with
  |none=>rw[List.getLast?_eq_none_iff.1 e]at ha;cases ha
  |some y=>
   have h2:=hab y e;rcases UH h.inc e a ha with rfl|h1
   ·exact h2
   ·exact Ns h1 h2
 ·rcases dX.1 hr with hr|hr
  ·exact h.sub r hr
  ·rw[bM.1 hr];exact hb
 ·rw[NA]at hc;have hc:=nC hc;cases e:opn p x with
  |true=>
   have h1:=hl x hx e;rw[aeh]at h1;refine⟨b,by simp,?_,?_⟩
   ·by_cases h2:gJ x b<0
    ·exact absurd (.inl h2) h1
    ·omega
   ·intro h2;by_cases h3:gJ x b<0
    ·exact h1 (.inl h3)
    ·exact h1 (.inr ⟨by omega,h2⟩)
  |false=>
   obtain⟨r,m,q⟩:=h.done x hx e;exact⟨r,je _ m,q⟩
 ·have:=UG (p:=opn p) (q:=opn (p++[b])) hb ho (by rw[NA];exact aR (by rw[Jq,uX];omega)) (λx hx=>by
   rw[NA]at hx;have hx:=iI hx;unfold opn;cases e:p.getLast? with
   |none=>rfl
   |some y=>exact dK (Jq.2 (Ns (hab y e) (Jq.1 hx))))
  have:=h.cnt;omega
end Kd
namespace Kd
open Canon
theorem aek{rs:List Clue}(h:rs.Pairwise λa b=>gJ a b<0):rs.Nodup:=h.imp λ{a b} hab he=>by rw[he,uX]at hab;omega
theorem UI{α:Type}[DecidableEq α]:∀{a b:List α},a.Nodup->(∀x∈a,x∈b)->a.length<=b.length
 |[],_,_,_=>bR _
 |x::a,b,hn,h=>by
  obtain⟨h1,h2⟩:=yD.1 hn;have hx:=h x (cB ..);have:=UI (b:=b.erase x) h2 λy hy=>(PW (by rintro rfl;exact h1 hy)).2 (h y (cO _ hy));rw[PU hx]at this;have:=PV hx;rw[oP];omega
theorem ael{xs rs:List Clue}(h:l7 xs rs):rs.length<=xs.length:=UI (aek h.inc) h.sub
end Kd
namespace Kd
open Go Go.Ideal
theorem NC:∀{a b:List Int},a.Pairwise (·<·)->b.Pairwise (·<·)->(∀x,x∈a↔x∈b)->a=b
 |[],[],_,_,_=>rfl
 |[],y::b,_,_,h=>by have:=(h y).2 (cB ..);cases this
 |x::a,[],_,_,h=>by have:=(h x).1 (cB ..);cases this
 |x::a,y::b,ha,hb,h=>by
  have hxy:x=y:=by
   rcases dx.1 ((h x).1 (cB ..))with e|hx
   ·exact e
   rcases dx.1 ((h y).2 (cB ..))with e|hy
   ·exact e.symm
   have:=(qx.1 ha).1 y hy;have:=(qx.1 hb).1 x hx;omega
  subst hxy;rw[NC (qx.1 ha).2 (qx.1 hb).2 λz=>?_];constructor
  ·intro hz;have:=(qx.1 ha).1 z hz;exact(dx.1 ((h z).1 (cO _ hz))).resolve_left (by omega)
  ·intro hz;have:=(qx.1 hb).1 z hz;exact(dx.1 ((h z).2 (cO _ hz))).resolve_left (by omega)
theorem aem{n:Nat}{x:Int}:x∈upTo' n↔0<=x/\x<(n:Int):=by
 unfold upTo';rw[eT];constructor
 ·rintro⟨i,hi,rfl⟩;have:=ol.1 hi;omega
 ·intro h;exact⟨x.toNat,ol.2 (by omega),by omega⟩
theorem aen(n:Nat):(upTo' n).Pairwise (·<·):=by
 unfold upTo';rw[wS];exact List.Pairwise.imp (λh=>by omega) List.pairwise_lt_range
def dP(n:Nat)(p:Int->Bool):List Int:=(upTo' n).filter p
theorem aeo{n:Nat}{p:Int->Bool}{x:Int}:x∈dP n p↔(0<=x/\x<(n:Int))/\p x=true:=by
 unfold dP;rw[sP,aem]
theorem Jr(n:Nat)(p:Int->Bool):(dP n p).Pairwise (·<·):=List.Pairwise.filter _ (aen n)
theorem A9(k:Nat)(p:Int->Bool):dP (k+1) p=dP k p++if p (k:Int)then[(k:Int)]else[]:=by
 unfold dP;rw[wo,Gi];congr 1;rw[Gd];split<;>simp
theorem Ba(n:Nat)(p:Int->Bool):(dP n p).length<=n:=by
 unfold dP;refine pQ (PR _ _) ?_;rw[lZ];exact bT _
theorem Js{l:List Int}(hi:l.Pairwise (·<·)){n:Nat}{p:Int->Bool}(h:∀x,x∈l↔(0<=x/\x<(n:Int))/\p x=true):l=dP n p:=
 NC hi (Jr n p) λx=>(h x).trans aeo.symm
theorem aep(n:Nat)(holes:List Int):gI n holes=dP n λi=>!decide (i∈holes):=rfl
theorem UJ{n:Nat}{holes:List Int}(hi:holes.Pairwise (·<·))(hm:∀x∈holes,0<=x/\x<(n:Int)):dP n (λi=>decide (i∈holes))=holes:=
 (Js hi λx=>⟨λh=>⟨hm x h,dK h⟩,λh=>iI h.2⟩).symm
theorem aeq{n:Nat}{holes:List Int}(hi:holes.Pairwise (·<·))(hm:∀x∈holes,0<=x/\x<(n:Int)):(gI n holes).length+holes.length=n:=by
 have h1:(dP n λi=>decide (i∈holes)).length=holes.length:=by rw[UJ hi hm]
 have h2:=List.length_eq_countP_add_countP (λi:Int=>decide (i∈holes)) (l:=upTo' n);rw[lZ,List.countP_eq_length_filter,List.countP_eq_length_filter]at h2;have h3:gI n holes=List.filter (λa=>decide ¬decide (a∈holes)=true) (upTo' n):=by
  rw[aep];unfold dP;congr 1;funext i
  by_cases h:i∈holes<;>simp[h]
 rw[h3];unfold dP at h1;omega
structure aer(s w h:Int)(holes:List Int):Prop where
 sh:s=1\/s=2
 wi:1<=w/\w<=16
 he:1<=h/\h<=16
 inc:holes.Pairwise (·<·)
 mem:∀x∈holes,0<=x/\x<w*h
 ne:mX w h holes≠[]
theorem wz{s w h:Int}{holes:List Int}:aer s w h holes↔oH s w h holes:=by
 have key:(1<=w/\w<=16)->(1<=h/\h<=16)->holes.Pairwise (·<·)->(∀x∈holes,0<=x/\x<w*h)->(mX w h holes≠[]↔(holes.length:Int)<w*h):=by
  intro hw hh hi hm;have hb:=xQ hw hh;obtain⟨m,hmm⟩:=jA (show 0<=w*h by omega);rw[hmm]at hm⊢;unfold mX;rw[hmm,kJ];have:=aeq hi hm;rw[<- BK];omega
 exact⟨λq=>⟨q.sh,q.wi,q.he,(key q.wi q.he q.inc q.mem).1 q.ne,q.inc,q.mem⟩,λq=>⟨q.sh,q.wi,q.he,q.inc,q.mem,(key q.wi q.he q.inc q.mem).2 q.len⟩⟩
def gZ(g:bz)(c:Int):Int×Int:=((g.cells[c.toNat]?).map (nM g)).getD (0,0)
theorem C8{g:bz}{k:Nat}{x:Int}(h:g.cells[k]? =some x):gZ g (k:Int)=nM g x:=by
 unfold gZ;rw[kJ,h];rfl
theorem Fx{g:bz}{q:Int×(Int×Int)}:q∈bB g↔(0<=q.1/\q.1<(g.cells.length:Int))/\q.2=gZ g q.1:=by
 constructor
 ·intro h;refine⟨Jn q h,?_⟩;obtain⟨k,hk⟩:=uy.1 h;have h1:=xR hk;have hkl:=(bq.1 hk).1;rw[qK]at hkl;have hx:g.cells[k]? =some g.cells[k]:=bP hkl;rw[zg hx]at hk;have hk:=Option.some.inj hk;rw[h1,C8 hx,<- hk]
 ·rintro⟨⟨h1,h2⟩,h3⟩;have hkl:q.1.toNat<g.cells.length:=by omega
  have hx:g.cells[q.1.toNat]? =some g.cells[q.1.toNat]:=bP hkl;have h4:=zg hx;rw[show((q.1.toNat:Nat):Int)=q.1 by omega]at h4;have h5:gZ g q.1=nM g g.cells[q.1.toNat]:=by
   have:=C8 hx
   rwa [show((q.1.toNat:Nat):Int)=q.1 by omega]at this
  rw[<- h5,<- h3]at h4;exact aZ h4
def xU(sh:Int)(s t:Int×Int):Bool:=
 if sh=1 then(decide (t.2 - s.2=0)&&(decide (t.1 - s.1=1)||decide (t.1 - s.1= -1)))||(decide (t.1 - s.1=0)&&(decide (t.2 - s.2=1)||decide (t.2 - s.2= -1)))
 else(decide (t.1 - s.1=1)&&decide (t.2 - s.2=0))||(decide (t.1 - s.1= -1)&&decide (t.2 - s.2=0))||(decide (t.1 - s.1=0)&&decide (t.2 - s.2=1))||(decide (t.1 - s.1=0)&&decide (t.2 - s.2= -1))||(decide (t.1 - s.1=1)&&decide (t.2 - s.2= -1))||(decide (t.1 - s.1= -1)&&decide (t.2 - s.2=1))
theorem aes{g:bz}{s t:Int×Int}:xU g.shape s t=true↔∃d∈eO.take (dV g),t=(s.1+d.1,s.2+d.2):=by
 obtain⟨s1,s2⟩:=s;obtain⟨t1,t2⟩:=t;unfold xU dV;by_cases h:g.shape=1
 ·rw[if_pos h,if_pos h];simp[eO];omega
 ·rw[if_neg h,if_neg h];simp[eO];omega
theorem aet{g:bz}(hg:fE g){p:Int×(Int×Int)}:lX g p=dP g.cells.length λb=>xU g.shape p.2 (gZ g b):=by
 refine Js (Nw hg p) λc=>?_;rw[Nu hg,aes];constructor
 ·rintro⟨d,hd,q,hq,h1,rfl⟩;obtain⟨h2,h3⟩:=Fx.1 hq;exact⟨h2,d,hd,h3▸h1⟩
 ·rintro⟨h2,d,hd,h1⟩;exact⟨d,hd,(c,gZ g c),Fx.2 ⟨h2,rfl⟩,h1,rfl⟩
theorem UK{g:bz}(hg:fE g){k:Nat}(hk:k<g.cells.length):(bJ g)[k]? =some (dP g.cells.length λb=>xU g.shape (gZ g k) (gZ g b)):=by
 unfold bJ;have hx:g.cells[k]? =some g.cells[k]:=bP hk;rw[dm,zg hx,jT,aet hg,C8 hx]
theorem Fh{α β:Type}[DecidableEq α](b:α)(v:β):∀m:List (α×β),(upd b v m).map (·.1)=if b∈m.map (·.1)then m.map (·.1)else m.map (·.1)++[b]
 |[]=>by
  rw[if_neg (by simp)];rfl
 |(a,u)::m=>by
  unfold upd;by_cases e:b=a
  ·rw[if_pos e,if_pos (by rw[e];simp),e];rfl
  ·rw[if_neg e,gL,gL,Fh b v m];by_cases h:b∈m.map (·.1)
   ·rw[if_pos h,if_pos (cO _ h)]
   ·rw[if_neg h,if_neg (by rw[dx,not_or];exact⟨e,h⟩)];rfl
def nN(kf:Int×Int->Int×Bool)(ps:List (Int×(Int×Int)))(n:Int):List Int:=(ps.filter λp=>(kf p.2).2&&decide ((kf p.2).1=n)).map (·.1)
theorem ND(kf:Int×Int->Int×Bool)(ps:List (Int×(Int×Int)))(p:Int×(Int×Int))(n:Int):nN kf (ps++[p]) n=nN kf ps n++if((kf p.2).2&&decide ((kf p.2).1=n))=true then[p.1]else[]:=by
 unfold nN;rw[Gi,fP];congr 1;rw[Gd];split<;>simp
theorem UL(kf:Int×Int->Int×Bool)(m:Nat):∀ps:List (Int×(Int×Int)),ps.length=m->((jN kf ps).map (·.1)).Nodup/\∀n,(n∈(jN kf ps).map (·.1)↔nN kf ps n≠[])/\(dR n (jN kf ps)).getD []=nN kf ps n:=by
 induction m with
 |zero=>
  intro ps h;rw[jy.1 h];exact⟨yE,λn=>⟨by simp[jN,nN],rfl⟩⟩
 |succ m ih=>
  intro ps h;obtain⟨qs,p,rfl⟩:∃qs p,ps=qs++[p]:=⟨ps.dropLast,ps.getLast (by intro e;rw[e]at h;cases h),(yF _).symm⟩
  obtain⟨h1,h2⟩:=ih qs (by simpa using h);rw[Ji];unfold xS;cases hb:(kf p.2).2 with
  |false=>
   refine⟨h1,λn=>?_⟩;rw[ND,hb,if_neg (by simp),gU];exact h2 n
  |true=>
   dsimp only[cond];rw[Fh];refine⟨?_,λn=>⟨?_,?_⟩⟩
   ·split
    ·exact h1
    ·rename_i hn;rw[iT];exact⟨h1,by simp,λa ha b hb'=>by rw[bM.1 hb'];exact λe=>hn (e▸ha)⟩
   ·rw[ND,hb];by_cases e:(kf p.2).1=n
    ·have hc:(true&&decide ((kf p.2).1=n))=true:=by simp[e]
     rw[if_pos hc];split
     ·rename_i hn;rw[e]at hn;exact⟨λ_=>by simp,λ_=>hn⟩
     ·rw[e];exact⟨λ_=>by simp,λ_=>nA _ (bM.2 rfl)⟩
    ·have hc:¬(true&&decide ((kf p.2).1=n))=true:=by simp[e]
     rw[if_neg hc,gU];split
     ·exact(h2 n).1
     ·rw[dX,(h2 n).1];simp only[bM];exact⟨λh=>h.resolve_right (λx=>e x.symm),.inl⟩
   ·rw[zh,ND,hb];by_cases e:(kf p.2).1=n
    ·rw[if_pos e.symm,if_pos (by simp[e]),wQ,(h2 _).2,e]
    ·rw[if_neg (λx=>e x.symm),if_neg (by simp[e]),gU];exact(h2 n).2
theorem UM{g:bz}(kf:Int×Int->Int×Bool)(n:Int):nN kf (bB g) n=dP g.cells.length λc=>(kf (gZ g c)).2&&decide ((kf (gZ g c)).1=n):=by
 refine Js ?_ λc=>?_
 ·unfold nN;rw[wS];refine List.Pairwise.filter _ ?_;rw[wT];intro i j hi hj hij;have h1:=xR (bP hi);have h2:=xR (bP hj);rw[h1,h2];omega
 ·unfold nN;rw[eT];constructor
  ·rintro⟨p,hp,rfl⟩;obtain⟨h1,h2⟩:=sP.1 hp;obtain⟨h3,h4⟩:=Fx.1 h1;rw[<- h4];exact⟨h3,h2⟩
  ·rintro⟨h1,h2⟩;exact⟨(c,gZ g c),sP.2 ⟨Fx.2 ⟨h1,rfl⟩,h2⟩,rfl⟩
def fG(lo:Int)(k:Nat):List Int:=(List.range k).map λi:Nat=>lo+(i:Int)
theorem aeu(lo:Int)(k:Nat):fG lo (k+1)=fG lo k++[lo+(k:Int)]:=by
 unfold fG;rw[Gm,fP];rfl
theorem aev{lo:Int}{k:Nat}{x:Int}:x∈fG lo k↔lo<=x/\x<lo+(k:Int):=by
 unfold fG;rw[eT];constructor
 ·rintro⟨i,hi,rfl⟩;have:=ol.1 hi;omega
 ·intro h;exact⟨(x - lo).toNat,ol.2 (by omega),by omega⟩
theorem aew(lo:Int)(k:Nat):(fG lo k).Pairwise (·<·):=by
 unfold fG;rw[wS];exact List.Pairwise.imp (λh=>by omega) List.pairwise_lt_range
def zm(L:Int->List Int)(lo:Int)(k:Nat):List (List Int):=((fG lo k).map L).filter λl=>!l.isEmpty
theorem UN(L:Int->List Int)(lo:Int)(k:Nat):zm L lo (k+1)=zm L lo k++if L (lo+(k:Int))=[]then[]else[L (lo+(k:Int))]:=by
 unfold zm;rw[aeu,fP,Gi];congr 1;rw[sQ,Gd];cases h:L (lo+(k:Int))with
 |nil=>rfl
 |cons x l=>simp
theorem UO{g:bz}(kf:Int×Int->Int×Bool){lo:Int}{k:Nat}(hk:∀p∈bB g,(kf p.2).2=true->lo<=(kf p.2).1/\(kf p.2).1<lo+(k:Int)):jd g kf=zm (nN kf (bB g)) lo k:=by
 obtain⟨h1,h2⟩:=UL kf _ (bB g) rfl;have h3:bW ((jN kf (bB g)).map (·.1))=(fG lo k).filter λn=>!(nN kf (bB g) n).isEmpty:=by
  refine NC (Jp h1) (List.Pairwise.filter _ (aew lo k)) λn=>?_;rw[uU,(h2 n).1,sP,aev];have hne:((!(nN kf (bB g) n).isEmpty)=true)↔nN kf (bB g) n≠[]:=by
   cases nN kf (bB g) n<;>simp
  rw[hne];refine⟨λh=>⟨?_,h⟩,λh=>h.2⟩;obtain⟨c,hc⟩:=List.exists_mem_of_ne_nil _ h;unfold nN at hc;obtain⟨p,hp,_⟩:=eT.1 hc;obtain⟨hp1,hp2⟩:=sP.1 hp;simp only[fe,wP]at hp2;rw[<- hp2.2];exact hk p hp1 hp2.1
 unfold jd zm;rw[h3,List.filter_map];refine sN λn _=>?_;exact(h2 n).2
theorem Jt{g:bz}(c:Int×Int->Bool):jd g (λs=>(0,c s))=if dP g.cells.length (λb=>c (gZ g b))=[]then[]else[dP g.cells.length λb=>c (gZ g b)]:=by
 rw[UO (lo:=0) (k:=1) (λs=>(0,c s)) (λp _ _=>⟨Int.le_refl 0,by omega⟩)];rw[show(1:Nat)=0+1 from rfl,UN];have e:nN (λs=>(0,c s)) (bB g) (0+((0:Nat):Int))=dP g.cells.length λb=>c (gZ g b):=by
  rw[UM];congr 1;funext b
  simp
 rw[e];rfl
theorem aex{g:bz}(hg:fE g){k:Nat}{l:List Int}(hl:(bJ g)[k]? =some l):bW (l++[(k:Int)])=dP g.cells.length λb=>decide (b=(k:Int))||decide (b∈l):=by
 have hk:k<g.cells.length:=by have:=(bq.1 hl).1;rwa [wm]at this
 have hls:∀c∈l,(0<=c/\c<(g.cells.length:Int)):=(Fv l (aZ hl)).2;have hlt:l.Pairwise (·<·):=by
  have:=UK hg hk;rw[hl]at this;rw[Option.some.inj this];exact Jr _ _
 have hkl:(k:Int)∉l:=λh=>by
  obtain⟨j,hj⟩:=uy.1 h;exact(aeb hg k l hl j k hj).2.2.1 rfl
 refine Js (Jp ?_) λc=>?_
 ·rw[iT];exact⟨hlt.imp (λh=>by omega),by simp,λa ha b hb=>by rw[bM.1 hb];exact λe=>hkl (e▸ha)⟩
 ·rw[uU,dX,bM];simp only[vG,wP];constructor
  ·rintro(h|rfl)
   ·exact⟨hls c h,.inr h⟩
   ·exact⟨by omega,.inl rfl⟩
  ·rintro⟨_,h|h⟩
   ·exact .inr h
   ·exact .inl h
