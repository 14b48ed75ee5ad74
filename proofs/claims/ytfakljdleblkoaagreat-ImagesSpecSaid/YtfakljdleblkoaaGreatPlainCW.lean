/-
  Part PlainCW.
-/
import Derived.Test.YtfakljdleblkoaaGreatPlainBW
import Derived.Test.YtfakljdleblkoaaGreatPlainAW
set_option linter.all false
namespace Kd
open Go Go.Ideal Canon
def aaH:Enc Clue:=⟨3,Value,λg v=>[.int .i64 g.aQ,.int .i64 g.at_,v],λg v=>[ai ae v g.values],λ_ _=>rfl⟩
abbrev aeQ(g:Clue)(v:Value):Value:=.agg ⟨[.int .i64 g.aQ,.int .i64 g.at_,v]⟩
def Ci:List Int->Int
 |[]=>0
 |a::l=>if a≠0 then a else Ci l
def ja(a b:Clue):Int:=Ci [j3 a.aQ b.aQ,j3 a.at_ b.at_]
theorem ac9(a b:Clue):ja a b=jP j3 [a.aQ,a.at_] [b.aQ,b.at_]:=by
 unfold ja;simp only[Ci,jP]
variable{a b:Clue}
theorem Cj:ja a b<0↔a.aQ<b.aQ\/(a.aQ=b.aQ/\a.at_<b.at_):=by
 exact hJ
theorem MX{c:Clue}(h1:ja a b<0)(h2:ja b c<0):ja a c<0:=by
 rw[Cj]at *;omega
def EG(k:bS)(g:Clue):Prop:=∃(c:iJ) (l:List (List Int)),0<=g.aQ/\k.decl.aJ[g.aQ.toNat]? =some c/\k.lists[c.family.toNat]? =some l/\0<=g.at_/\g.at_<l.length/\
 ((c.type=1/\g.values.length=1/\∀x∈g.values,0<=x/\x<=(k.decl.symbols.length:Int) - 1)\/(c.type=2/\g.values.length=1/\∀x∈g.values,c.lo<=x/\x<=c.hi)\/
   (c.type≠1/\c.type≠2/\g.values.length<=8/\∀x∈g.values,1<=x/\x<=256))
structure Ck(k:bS)(p:List Clue):Prop where
 len:p.length<=512
 right:∀g∈p,EG k g
 sorted:∀(i:Nat) a b,p[i]? =some a->p[i+1]? =some b->ja a b<0
def TD(k:bS):Prop:=∀c∈k.decl.aJ,0<=c.family/\c.family<k.lists.length
end Kd
namespace Kd
open Go Go.Ideal Canon
def TE(k:bS)(i:Int):Int:=match k.decl.aJ[i.toNat]? with|some c=>c.family|none=>0
def nT(k:bS)(g:Clue):List Int:=(k.lists.getD (TE k g.aQ).toNat []).getD g.at_.toNat []
def IK(k:bS)(p:List Clue)(r:bA):List (List Int×List Int):=
 if r.aQ<0 then(k.lists.getD r.family.toNat []).map λl=>(l,[r.n])else(p.filter λg=>decide (g.aQ=r.aQ)).map λg=>(nT k g,g.values)
theorem gz{α:Type}{l:List α}{n:Nat}{x d:α}(h:l[n]? =some x):l.getD n d=x:=by simp[List.getD,h]
theorem EG.cells{k:bS}{g:Clue}(h:EG k g):∃(c:iJ) (l:List (List Int)) (ps:List Int),k.decl.aJ[g.aQ.toNat]? =some c/\k.lists[c.family.toNat]? =some l/\l[g.at_.toNat]? =some ps/\0<=g.aQ/\0<=g.at_/\g.at_<l.length/\nT k g=ps:=by
 obtain⟨c,l,h1,h2,h3,h4,h5,_⟩:=h;have h6:l[g.at_.toNat]? =some (l[g.at_.toNat]'(vj)):=bW _;refine⟨c,l,_,h2,h3,h6,h1,h4,h5,?_⟩;unfold nT TE;rw[h2];dsimp only;rw[gz h3,gz h6]
end Kd
namespace Kd
open Go Go.Ideal Canon
def aR(grid:List Int)(c:Int):Int:=grid.getD c.toNat 0
theorem l6{grid:List Int}{n:Nat}{x:Int}(h:grid[n]? =some x):aR grid (n:Int)=x:=by unfold aR;exact gz h
end Kd
namespace Kd
open Go Go.Ideal
def Cm(n:Nat)(l:List Int):Prop:=l.length<=4096/\∀c∈l,0<=c/\c<(n:Int)
variable{g:bz}
theorem IL:∀p∈bB g,0<=p.1/\p.1<(g.cells.length:Int):=by
 intro p hp;obtain⟨k,hk⟩:=uW.1 hp;have hkl:=(bC.1 hk).1;rw[pM]at hkl;have:=xq hk;omega
theorem ada(kf:Int×Int->Int×Bool)(n:Nat):∀ps:List (Int×(Int×Int)),ps.length=n->∀a,∀c∈(dG a (ji kf ps)).getD [],∃p∈ps,p.1=c:=by
 induction n with
 |zero=>
  intro ps h a c hc;rw[jw.1 h]at hc;have hc:c∈([]:List Int):=hc;cases hc
 |succ n ih=>
  intro ps h a c hc;obtain⟨qs,p,rfl⟩:∃qs p,ps=qs++[p]:=⟨ps.dropLast,ps.getLast x6,(A8 _).symm⟩
  have hq:qs.length=n:=wq
  have hih:∀a,∀c∈(dG a (ji kf qs)).getD [],∃p'∈qs++[p],p'.1=c:=λa c hc=>by
   obtain⟨q,h1,h2⟩:=ih qs hq a c hc;exact⟨q,jW _ h1,h2⟩
  rw[EE]at hc;unfold vJ at hc;cases hb:(kf p.2).2 with
  |false=>
   rw[hb]at hc;exact hih a c hc
  |true=>
   rw[hb]at hc;have hc:c∈(dG a (upd (kf p.2).1 ((dG (kf p.2).1 (ji kf qs)).getD []++[p.1]) (ji kf qs))).getD []:=hc;rw[xu]at hc;by_cases e:a=(kf p.2).1
   ·rw[if_pos e,uT]at hc;rcases dW.1 hc with hc|hc
    ·exact hih _ c hc
    ·exact⟨p,vm,(bK.1 hc).symm⟩
   ·rw[if_neg e]at hc;exact hih a c hc
theorem EH(hg:eD g)(kf:Int×Int->Int×Bool):∀l∈iL g kf,Cm g.cells.length l:=by
 intro l hl;have hlen:=(IE hg kf).2 l hl;refine⟨vj,λc hc=>?_⟩;unfold iL at hl;obtain⟨n,_,rfl⟩:=eG.1 hl;obtain⟨p,hp,rfl⟩:=ada kf _ (bB g) rfl n c hc;exact IL p hp
variable{l:List Int}
theorem MZ{a b:List (List Int)}(h:l∈jJ a b):l∈a\/l∈b:=by
 unfold jJ at h;induction b generalizing a with
 |nil=>exact .inl h
 |cons x b ih=>
  rw[tN]at h;rcases ih h with h|h
  ·unfold sZ at h;split at h
   ·exact .inl h
   ·rcases dW.1 h with h|h
    ·exact .inl h
    ·exact .inr (by rw[bK.1 h];simp)
  ·exact .inr (dA _ h)
theorem TF{o:Option Value}{n:Int}(h:numOf o=some n):o=some (.int .i64 n):=by
 unfold numOf at h;split at h
 ·cases h;rfl
 ·cases h
theorem adb{p:Int×(Int×Int)}:Cm g.cells.length (lJ g p):=by
 unfold lJ;refine⟨?_,λc hc=>?_⟩
 ·exact ir
 ·rw[uD]at hc;unfold fT at hc;obtain⟨d,_,hd⟩:=FB.1 hc;obtain⟨c',h1,q,hq,h2⟩:=Tp _ _ (TF hd);injection h1 with _ h1;rw[h1,<- h2];exact IL q hq
theorem EI:∀l∈bI g,Cm g.cells.length l:=by
 intro l hl;obtain⟨p,_,rfl⟩:=eG.1 hl;exact adb
theorem ade(l:List Int):(bM l).length=l.length:=(zl l _).length_eq
theorem TG(hg:eD g)(k:Int):∀l∈dx g k,Cm g.cells.length l:=by
 have hlen:=hg.len;have hnl:=uC g;have hnm:=EF (g:=g);intro l hl;unfold dx at hl;split at hl
 ·unfold lK at hl;obtain⟨i,hi,rfl⟩:=eG.1 hl;have:=oZ.1 hi;exact⟨vm,λc hc=>by rw[bK.1 hc];omega⟩
 split at hl
 ·exact EH hg _ l hl
 split at hl
 ·exact EH hg _ l hl
 split at hl
 ·unfold kK at hl;split at hl
  ·exact EH hg _ l hl
  split at hl
  ·rcases MZ hl with hl|hl
   ·exact EH hg _ l hl
   ·exact EH hg _ l hl
  ·cases hl
 split at hl
 ·exact EI l hl
 split at hl
 ·unfold kL at hl;obtain⟨⟨x,i⟩,hx,rfl⟩:=eG.1 hl;have hx:=tT.1 hx;have hxm:=aP hx;have hi:=(bC.1 hx).1;have h6:=hnm x hxm;refine⟨by rw[ade];simp;omega,λc hc=>?_⟩;rw[uD]at hc;rcases dW.1 hc with hc|hc
  ·exact(EI x hxm).2 c hc
  ·rw[bK.1 hc];dsimp only;omega
 split at hl
 ·unfold gZ at hl;obtain⟨⟨x,i⟩,hx,hl⟩:=List.mem_flatMap.1 hl;have hx:=tT.1 hx;have hxm:=aP hx;have hi:=(bC.1 hx).1;unfold jc at hl;obtain⟨j,hj,rfl⟩:=eG.1 hl;have hj:=(rY.1 hj).1;refine⟨vm,λc hc=>?_⟩;simp only[dH,Fy,or_false]at hc;rcases hc with rfl|rfl
  ·omega
  ·exact(EI x hxm).2 _ hj
 ·rw[bK.1 hl];refine⟨by rw[oO];omega,λc hc=>?_⟩;unfold upTo' at hc;obtain⟨i,hi,rfl⟩:=eG.1 hc;have:=oZ.1 hi;omega
theorem TH(hg:eD g){rs:List (List Int)}(hr:vN g rs):∀l∈dU g rs,Cm g.cells.length l:=by
 intro l hl;obtain⟨ps,hps,rfl⟩:=eG.1 hl;have hP:=hr.all ps hps;have h1:=IJ hP.mem hP.nd;have h2:=hg.len;refine⟨by unfold eT;rw[cz];omega,λc hc=>?_⟩;obtain⟨p,hp,rfl⟩:=eG.1 hc;have:=MW (hP.mem p hp);omega
theorem adf{d:bE}(hg:eD (aO d))(hr:∀r∈d.regions,vN (aO d) r.lists):∀l∈lc d,∀ps∈l,Cm (aO d).cells.length ps:=by
 intro l hl ps hps;unfold lc at hl;rcases dW.1 hl with hl|hl
 ·obtain⟨f,_,rfl⟩:=eG.1 hl;exact TG hg _ ps hps
 ·obtain⟨r,hrm,rfl⟩:=eG.1 hl;exact TH hg (hr r hrm) ps hps
theorem adg(hw:1<=g.w){x y:Int}(hx:0<=x)(hy:0<=y)(h:nC g x=nC g y):x=y:=by
 unfold nC at h;have h1:=congrArg Prod.fst h;have h2:=congrArg Prod.snd h;dsimp only at h1 h2;rw[tQ hx,tQ hy]at h2;rw[tQ hx,tQ hy,CW hx,CW hy,h2]at h1;have h3:x%g.w=y%g.w:=by
  split at h1<;>omega
 have e1:=OY x g.w;have e2:=OY y g.w;rw[h2,h3]at e1;omega
theorem EJ(hg:eD g){p q:Int×(Int×Int)}(hp:p∈bB g)(hq:q∈bB g)(h:p.1=q.1\/p.2=q.2):p=q:=by
 obtain⟨k,hk⟩:=uW.1 hp;obtain⟨j,hj⟩:=uW.1 hq;have hkl:=(bC.1 hk).1;have hjl:=(bC.1 hj).1;rw[pM]at hkl hjl;rcases h with h|h
 ·have h1:=xq hk;have h2:=xq hj;have:k=j:=by omega
  subst this;rw[hk]at hj;exact Option.some.inj hj
 ·have hx:g.cells[k]? =some g.cells[k]:=bW hkl;have hy:g.cells[j]? =some g.cells[j]:=bW hjl;have hkk:=hk;have hjj:=hj;rw[xm hx]at hk;rw[xm hy]at hj;have hk:=Option.some.inj hk;have hj:=Option.some.inj hj;have hs:nC g g.cells[k]=nC g g.cells[j]:=by rw[<- hk,<- hj]at h;exact h
  have he:=adg (by have:=hg.make.wi;omega) (hg.cell _ (xP _)).1 (hg.cell _ (xP _)).1 hs;have lM:g.cells.Pairwise (·<·):=Bs
  have hkj:k=j:=by
   apply Classical.byContradiction;intro hne;have:=zm.1 lM;rcases Nat.lt_or_gt_of_ne hne with hl|hl
   ·have:=this k j hkl hjl hl;omega
   ·have:=this j k hjl hkl hl;omega
  subst hkj;rw[hkk]at hjj;exact Option.some.inj hjj
theorem adh(n:Nat):∀xs:List (Int×(Int×Int)),xs.length=n->(∀p∈xs,∀q∈xs,p.2=q.2->p=q)->∀p∈xs,dG p.2 (fo xs)=some (.int .i64 p.1):=by
 induction n with
 |zero=>intro xs h _ p hp;rw[jw.1 h]at hp;cases hp
 |succ n ih=>
  intro xs h hi p hp;obtain⟨ys,q,rfl⟩:∃ys q,xs=ys++[q]:=⟨xs.dropLast,xs.getLast x6,(A8 _).symm⟩
  rw[MM,xu];by_cases e:p.2=q.2
  ·have:=hi p hp q vm e;subst this;rw[if_pos rfl]
  ·rw[if_neg e];refine ih ys wq (λa ha b hb=>hi a (jW _ ha) b (jW _ hb)) p ?_;rcases dW.1 hp with hp|hp
   ·exact hp
   ·rw[bK.1 hp]at e;exact absurd rfl e
theorem adi(n:Nat):∀xs:List (Int×(Int×Int)),xs.length=n->∀a v,dG a (fo xs)=some v->∃p∈xs,p.2=a/\v=.int .i64 p.1:=by
 induction n with
 |zero=>
  intro xs h a v hv;rw[jw.1 h]at hv;cases hv
 |succ n ih=>
  intro xs h a v hv;obtain⟨ys,q,rfl⟩:∃ys q,xs=ys++[q]:=⟨xs.dropLast,xs.getLast x6,(A8 _).symm⟩
  rw[MM,xu]at hv;by_cases e:a=q.2
  ·rw[if_pos e]at hv;exact⟨q,vm,e.symm,(Option.some.inj hv).symm⟩
  ·rw[if_neg e]at hv;obtain⟨p,h1,h2⟩:=ih ys wq a v hv;exact⟨p,jW _ h1,h2⟩
theorem IM(hg:eD g){s:Int×Int}{d:Int×Int}{n:Int}:numOf (dG (s.1+d.1,s.2+d.2) (fo (bB g)))=some n↔∃q∈bB g,q.2=(s.1+d.1,s.2+d.2)/\q.1=n:=by
 constructor
 ·intro h;obtain⟨q,hq,h1,h2⟩:=adi _ (bB g) rfl _ _ (TF h);injection h2 with _ h2;exact⟨q,hq,h1,h2.symm⟩
 ·rintro⟨q,hq,h1,h2⟩;rw[<- h1,adh _ (bB g) rfl (λa ha b hb e=>EJ hg ha hb (.inr e)) q hq,<- h2];rfl
theorem M0(hg:eD g){p:Int×(Int×Int)}{n:Int}:n∈lJ g p↔∃d∈dZ.take (dP g),∃q∈bB g,q.2=(p.2.1+d.1,p.2.2+d.2)/\q.1=n:=by
 unfold lJ;rw[uD];unfold fT;rw[FB];constructor
 ·rintro⟨d,hd,h⟩;exact⟨d,hd,(IM hg).1 h⟩
 ·rintro⟨d,hd,h⟩;exact⟨d,hd,(IM hg).2 h⟩
theorem TI(g:bz):dP g=4\/dP g=6:=by unfold dP;split<;>simp
variable{m:Nat}
theorem adj(hm:m=4\/m=6):∀d∈dZ.take m,(-d.1, -d.2)∈dZ.take m:=by
 rcases hm with rfl|rfl<;>decide
theorem adk:∀d∈dZ.take m,¬(d.1=0/\d.2=0):=by
 intro d hd;have:=OH hd;revert d;have:∀d∈dZ,¬(d.1=0/\d.2=0):=wj
 intro d _ hd;exact this d hd
theorem adl(hm:m=4\/m=6):(dZ.take m).Nodup:=by
 rcases hm with rfl|rfl<;>decide
theorem M3(l:List Int):(bM l).Pairwise (λx y=>x<=y):=by
 have:=WK (le:=λx y:Int=>decide (x<=y)) (λa b c h1 h2=>by simp at h1 h2⊢;omega) (λa b=>by simp;omega) l;exact tA
theorem IP(h:l.Nodup):(bM l).Pairwise (·<·):=by
 have h1:=M3 l;have h2:(bM l).Nodup:=(zl l _).symm.nodup h;have h3:(bM l).Pairwise (λx y=>x<=y/\x≠y):=List.Pairwise.and h1 h2;exact h3.imp (λh=>by omega)
theorem M4(hg:eD g)(p:Int×(Int×Int)):(lJ g p).Pairwise (·<·):=by
 unfold lJ;refine IP ?_;unfold fT;refine List.Pairwise.filterMap _ ?_ (adl (TI g));intro d1 d2 hne b hb b' hb' e;subst e;obtain⟨q1,h1,h2,h3⟩:=(IM hg).1 hb;obtain⟨q2,k1,k2,k3⟩:=(IM hg).1 hb';have:=EJ hg h1 k1 (.inl (by rw[h3,k3]));subst this;rw[h2]at k2;apply hne;have e1:=congrArg Prod.fst k2;have e2:=congrArg Prod.snd k2;dsimp only at e1 e2;exact Prod.ext vj vj
theorem TJ(hg:eD g)(i:Nat)(l:List Int)(hl:(bI g)[i]? =some l)(k:Nat)(n:Int)(hn:l[k]? =some n):
 0<=n/\n<(bI g).length/\n≠i/\(∀m,0<k->l[k - 1]? =some m->m<n)/\∀l',(bI g)[n.toNat]? =some l'->(i:Int)∈l':=by
 have hnm:=uC g;unfold bI at hl;rw[dK]at hl;obtain⟨p,hp,rfl⟩:=jV.1 hl;have hp1:=xq hp;have hpm:=aP hp;obtain⟨d,hd,q,hq,hq2,hq1⟩:=(M0 hg).1 (aP hn);have hqi:=IL q hq;refine⟨vj,vj,λe=>?_,λm hk hm=>?_,λl' hl'=>?_⟩
 ·have:q=p:=EJ hg hq hpm (.inl vj);subst this;have e1:=congrArg Prod.fst hq2;have e2:=congrArg Prod.snd hq2;dsimp only at e1 e2;exact adk d hd ⟨vj,vj⟩
 ·have hlt:=M4 hg p;obtain⟨a1,a2⟩:=bC.1 hm;obtain⟨b1,b2⟩:=bC.1 hn;have:=zm.1 hlt (k - 1) k a1 b1 vj;rw[a2,b2]at this;exact this
 ·unfold bI at hl';rw[dK]at hl';obtain⟨q',hq',rfl⟩:=jV.1 hl';have h1:=xq hq';have:q'=q:=EJ hg (aP hq') hq (.inl vj);subst this;rw[M0 hg];refine⟨(-d.1, -d.2),adj (TI g) d hd,p,hpm,?_,hp1⟩;rw[hq2];dsimp only;exact Prod.ext Bx Bx
end Kd
namespace Kd
open Go Go.Ideal Canon Gph
def Ah(r:bA):Int:=if r.kind=6\/r.kind=7\/r.kind=8 then 6 else if r.kind=9\/r.kind=10 then 7 else if r.kind=11 then 0 else r.family
end Kd
namespace Kd
open Go Go.Ideal Canon Gph
def IQ(p:List Clue)(c:Int)(at_:Int):Option (List Int):=(p.find? λg=>decide (g.aQ=c/\g.at_=at_)).map (·.values)
def M5(p:List Clue)(r:bA)(x:List Int×Nat):Option (Nat×List Int×List Int):=if r.aQ<0 then some (x.2,x.1,[])else(IQ p r.aQ (x.2:Int)).map λv=>(x.2,x.1,v)
def M6(p:List Clue)(r:bA)(ls:List (List Int)):List (Nat×List Int×List Int):=ls.zipIdx.filterMap (M5 p r)
end Kd
namespace Kd
open Go Go.Ideal Canon Gph
theorem adm(kf:Int×Int->Int×Bool)(n:Nat):∀ps:List (Int×(Int×Int)),ps.length=n->∀a,((dG a (ji kf ps)).getD []).Sublist (ps.map (·.1)):=by
 induction n with
 |zero=>
  intro ps h a;rw[jw.1 h];exact List.Sublist.refl _
 |succ n ih=>
  intro ps h a;obtain⟨qs,p,rfl⟩:∃qs p,ps=qs++[p]:=⟨ps.dropLast,ps.getLast x6,(A8 _).symm⟩
  have hq:qs.length=n:=wq
  have ih:=ih qs hq;rw[fD,EE];unfold vJ;cases hb:(kf p.2).2 with
  |false=>exact(ih a).trans (List.sublist_append_left _ _)
  |true=>
   show((dG a (upd (kf p.2).1 ((dG (kf p.2).1 (ji kf qs)).getD []++[p.1]) (ji kf qs))).getD []).Sublist _;rw[xu];by_cases e:a=(kf p.2).1
   ·rw[if_pos e,uT];exact(ih _).append (List.Sublist.refl _)
   ·rw[if_neg e];exact(ih a).trans (List.sublist_append_left _ _)
variable{g:bz}
theorem adn:(bB g).map (·.1)=upTo' g.cells.length:=by
 apply jv;intro i;unfold upTo';rw[dK,dK];by_cases h:i<g.cells.length
 ·rw[xm (bW h),qN h];rfl
 ·rw[gJ (by rw[pM];omega),gJ (by rw[o8];omega)];rfl
theorem EK(n:Nat):(upTo' n).Nodup:=by
 unfold upTo';refine List.Pairwise.map _ (λa b h=>?_) List.nodup_range;intro e;apply h;omega
theorem ado{n i:Nat}{x:Int}(h:(upTo' n)[i]? =some x):x=i:=by
 unfold upTo' at h;rw[dK]at h;obtain⟨j,hj,rfl⟩:=jV.1 h;have:=bC.1 hj;obtain⟨h1,h2⟩:=this;rw[List.getElem_range]at h2;omega
theorem EL(kf:Int×Int->Int×Bool):∀l∈iL g kf,l.Nodup:=by
 intro l hl;unfold iL at hl;obtain⟨n,_,rfl⟩:=eG.1 hl;have:=adm kf _ (bB g) rfl n;rw[adn]at this;exact this.nodup (EK _)
theorem M7(hg:eD g)(p:Int×(Int×Int)):(lJ g p).Nodup:=(M4 hg p).imp (λh=>by omega)
variable{l:List Int}
theorem TK(h:l.Nodup):(bM l).Nodup:=(IP h).imp (λh=>by omega)
theorem TL{aD:List (List Int)}(h:l∈gZ aD):∃(i:Nat) (x:List Int) (j:Int),aD[i]? =some x/\j∈x/\(i:Int)<j/\l=[(i:Int),j]:=by
 unfold gZ at h;obtain⟨⟨x,i⟩,hx,hl⟩:=List.mem_flatMap.1 h;unfold jc at hl;obtain⟨j,hj,rfl⟩:=eG.1 hl;obtain⟨h1,h2⟩:=rY.1 hj;exact⟨i,x,j,tT.1 hx,h1,gQ h2,rfl⟩
theorem adp(hg:eD g)(k:Int):∀l∈dx g k,l.Nodup:=by
 intro l hl;unfold dx at hl;split at hl
 ·unfold lK at hl;obtain⟨i,hi,rfl⟩:=eG.1 hl;simp
 split at hl
 ·exact EL _ l hl
 split at hl
 ·exact EL _ l hl
 split at hl
 ·unfold kK at hl;split at hl
  ·exact EL _ l hl
  split at hl
  ·rcases MZ hl with hl|hl
   ·exact EL _ l hl
   ·exact EL _ l hl
  ·cases hl
 split at hl
 ·unfold bI at hl;obtain⟨p,_,rfl⟩:=eG.1 hl;exact M7 hg p
 split at hl
 ·unfold kL at hl;obtain⟨⟨x,i⟩,hx,rfl⟩:=eG.1 hl;have hx:=tT.1 hx;have hxm:=aP hx;refine TK ?_;rw[gX];refine⟨?_,vm,λa ha b hb e=>?_⟩
  ·unfold bI at hxm;obtain⟨p,_,rfl⟩:=eG.1 hxm;exact M7 hg p
  ·rw[bK.1 hb]at e;obtain⟨j,hj⟩:=jT ha;exact(TJ hg i x hx j a hj).2.2.1 e
 split at hl
 ·obtain⟨i,x,j,h1,h2,h3,rfl⟩:=TL hl;simp only[wo,bK,Fy,not_false_iff,wy,xR];omega
 ·rw[bK.1 hl];exact EK _
theorem adq{d:bE}(hg:eD (aO d))(hr:∀r∈d.regions,vN (aO d) r.lists):∀l∈lc d,∀ps∈l,ps.Nodup:=by
 intro l hl ps hps;unfold lc at hl;rcases dW.1 hl with hl|hl
 ·obtain⟨f,_,rfl⟩:=eG.1 hl;exact adp hg _ ps hps
 ·obtain⟨r,hrm,rfl⟩:=eG.1 hl;obtain⟨q,hq,rfl⟩:=eG.1 hps;exact((hr r hrm).all q hq).nd
end Kd
namespace Kd
open Go Go.Ideal Canon Gph
theorem M8{k:bS}{p:List Clue}(h:Ck k p):∀(d i:Nat) a b,p[i]? =some a->p[i+1+d]? =some b->ja a b<0
 |0,i,a,b,ha,hb=>h.sorted i a b ha hb
 |d+1,i,a,b,ha,hb=>by
  have hlt:=(bC.1 hb).1;have hc:p[i+1+d]? =some (p[i+1+d]'(vj)):=bW _;exact MX (M8 h d i a _ ha hc) (h.sorted (i+1+d) _ b hc hb)
variable{p:List Clue}{k:bS}
theorem adr(h:Ck k p){a b:Clue}(ha:a∈p)(hb:b∈p)(h1:a.aQ=b.aQ)(h2:a.at_=b.at_):a=b:=by
 obtain⟨i,hi⟩:=jT ha;obtain⟨j,hj⟩:=jT hb;rcases Nat.lt_trichotomy i j with hl|hl|hl
 ·have:=Cj.1 (M8 h (j - (i+1)) i a b hi (by rw[show i+1+(j - (i+1))=j by omega];exact hj));omega
 ·subst hl;rw[hi]at hj;exact Option.some.inj hj
 ·have:=Cj.1 (M8 h (i - (j+1)) j b a hj (by rw[show j+1+(i - (j+1))=i by omega];exact hi));omega
theorem ads(h:Ck k p){c a:Int}{v:List Int}:IQ p c a=some v↔∃g∈p,g.aQ=c/\g.at_=a/\g.values=v:=by
 unfold IQ;constructor
 ·intro hf;obtain⟨g,hg,rfl⟩:=jV.1 hf;have h1':=List.find?_some hg;have h1:g.aQ=c/\g.at_=a:=gQ h1';exact⟨g,OV hg,h1.1,h1.2,rfl⟩
 ·rintro⟨g,hg,h1,h2,rfl⟩;cases hf:p.find? (λg=>decide (g.aQ=c/\g.at_=a))with
  |none=>exact absurd (eY ⟨h1,h2⟩) (List.find?_eq_none.1 hf g hg)
  |some g2=>
   have h3':=List.find?_some hf;have h3:g2.aQ=c/\g2.at_=a:=gQ h3';rw[adr h hg (OV hf) vj vj];rfl
theorem adt{r:bA}{ls:List (List Int)}{y:Nat×List Int×List Int}:y∈M6 p r ls↔ls[y.1]? =some y.2.1/\((r.aQ<0/\y.2.2=[])\/(0<=r.aQ/\IQ p r.aQ (y.1:Int)=some y.2.2)):=by
 obtain⟨j,l,v⟩:=y;unfold M6;rw[FB];constructor
 ·rintro⟨⟨x,i⟩,hx,h⟩;have hx:=tT.1 hx;unfold M5 at h;split at h
  ·rename_i hc;cases h;exact⟨hx,.inl ⟨hc,rfl⟩⟩
  ·rename_i hc;obtain⟨w,hw,e⟩:=jV.1 h;cases e;exact⟨hx,.inr ⟨vj,hw⟩⟩
 ·rintro⟨h1,h2⟩;refine⟨(l,j),tT.2 h1,?_⟩;unfold M5;rcases h2 with⟨hc,e⟩|⟨hc,e⟩
  ·rw[if_pos hc];dsimp only at e;rw[e]
  ·rw[if_neg vj];dsimp only at e⊢;rw[e];rfl
end Kd
namespace Kd
open Go Go.Ideal
theorem EM:∀{l m:List Int},l.Nodup->(∀x∈l,x∈m)->l.length<=m.length
 |[],m,_,_=>bQ _
 |a::l,m,hd,hs=>by
  have ha:=hs a (cZ ..);have h1:=WL ha;have hp:0<m.length:=akf ha;have:=EM (l:=l) (m:=m.erase a) (wo.1 hd).2 (λx hx=>by
   have hne:x≠a:=λe=>(wo.1 hd).1 (e▸hx);exact(akg hne).2 (hs x (dA _ hx)))
  rw[oD];omega
theorem adu{g:bz}(hg:eD g):0<g.cells.length:=by
 apply Classical.byContradiction;intro h0;have he:g.cells=[]:=jw.1 vj;rw[hg.cells]at he;unfold l5 gp at he;have hw:=vH hg.make.wi hg.make.he;have hlen:=hg.make.len;have:=EM (l:=upTo' (g.w*g.h).toNat) (m:=g.holes) (EK _) (λx hx=>by
  have hx:x∈(List.range (g.w*g.h).toNat).map λi:Nat=>(i:Int):=hx;have:=List.filter_eq_nil_iff.1 he x hx;simpa using this)
 rw[oO]at this;omega
end Kd
namespace Kd
open Go Go.Ideal Canon Gph
theorem adv{g:bz}(hg:eD g)(k:Int):(dx g k).length<=2048:=by
 have hl:=hg.len;have hn:=uC g;have hL:=λkf=>IE hg kf;unfold dx;split
 ·unfold lK;rw[cz,o8];omega
 split
 ·have:=(hL (λs=>(s.2,true))).1;omega
 split
 ·have:=(hL (λs=>(s.1,true))).1;omega
 split
 ·unfold kK;split
  ·have:=(hL (λs=>(s.1+s.2,true))).1;omega
  split
  ·have h1:=hL (λs=>(0,decide (s.1=s.2)));have h2:=hL (λs=>(0,decide (s.1+s.2=g.w - 1)));have:=(MP h1.2 h2.2 (iL g (λs=>(0,decide (s.1+s.2=g.w - 1)))).length).1;rw[bJ]at this;omega
  ·simp
 split
 ·omega
 split
 ·unfold kL;rw[cz,List.length_zipIdx];omega
 split
 ·have:=IG (aD:=bI g) EF (bI g).length (bV _);rw[bJ]at this;omega
 ·simp
theorem adw{d:bE}(hg:eD (aO d))(hr:∀r∈d.regions,vN (aO d) r.lists):∀l∈lc d,l.length<=2048:=by
 intro l hl;unfold lc at hl;rcases dW.1 hl with hl|hl
 ·obtain⟨f,_,rfl⟩:=eG.1 hl;exact adv hg _
 ·obtain⟨r,hrm,rfl⟩:=eG.1 hl;have:=(hr r hrm).len;unfold dU;rw[cz];omega
end Kd
namespace Kd
open Canon
variable{b a:Clue}
theorem IR:ja a b=0↔a.aQ=b.aQ/\a.at_=b.at_:=by
 exact hJ
theorem adx(a b:Clue):D6 a b=if ja a b≠0 then ja a b else jP j3 a.values b.values:=by
 rw[aaK,<- ac9]
theorem ady:D6 a b<0↔ja a b<0\/(ja a b=0/\jP j3 a.values b.values<0):=by
 rw[adx];split<;>omega
structure Cn(xs rs:List Clue):Prop where
 inc:rs.Pairwise λa b=>ja a b<0
 sub:∀r∈rs,r∈xs
 all:∀x∈xs,∃r∈rs,ja x r=0/\¬jP j3 x.values r.values<0
variable{rs:List Clue}
theorem adz(h:rs.Pairwise λa b=>ja a b<0){a b:Clue}(ha:a∈rs)(hb:b∈rs)(he:ja a b=0):a=b:=by
 induction h with
 |nil=>cases ha
 |cons h1 _ ih=>
  rcases dH.1 ha with e1|ha'<;>rcases dH.1 hb with e2|hb'
  ·rw[e1,e2]
  ·have:=h1 b hb';rw[<- e1]at this;omega
  ·have:=h1 a ha';rw[<- e2]at this;rw[IR]at he;rw[Cj]at this;omega
  ·exact ih ha' hb'
variable{xs rs':List Clue}
theorem Cn.mem(h:Cn xs rs)(h':Cn xs rs'){r:Clue}(hr:r∈rs):r∈rs':=by
 obtain⟨r2,m2,p2,v2⟩:=h'.all r (h.sub r hr);obtain⟨r1,m1,p1,v1⟩:=h.all r2 (h'.sub r2 m2);have h3:ja r r1=0:=by rw[IR]at *;omega
 have:=adz h.inc hr m1 h3;subst this;have hO:=Rb Ra;have h4:jP j3 r.values r2.values=0:=by
  have:=hO.neg r2.values r.values;have:=hO.neg r.values r2.values;omega
 have h5:=(hO.zero _ _).1 h4;rw[IR]at p2;have:r=r2:=by cases r;cases r2;simp_all
 rw[this];exact m2
theorem akp:∀{a b:List Clue},(a.Pairwise λx y=>ja x y<0)->(b.Pairwise λx y=>ja x y<0)->(∀x,x∈a↔x∈b)->a=b
 |[],[],_,_,_=>rfl
 |[],y::b,_,_,h=>absurd ((h y).2 (cZ ..)) vm
 |x::a,[],_,_,h=>absurd ((h x).1 (cZ ..)) vm
 |x::a,y::b,ha,hb,h=>by
  obtain⟨a1,a2⟩:=rZ.1 ha;obtain⟨b1,b2⟩:=rZ.1 hb;have hxy:x=y:=by
   rcases dH.1 ((h x).1 (cZ ..))with e|e
   ·exact e
   ·rcases dH.1 ((h y).2 (cZ ..))with e'|e'
    ·exact e'.symm
    ·have q1:=b1 x e;have q2:=a1 y e';rw[Cj]at q1 q2;omega
  subst hxy;have irr:∀z:Clue,¬ja z z<0:=λz h=>by rw[Cj]at h;omega
  rw[akp a2 b2 λz=>⟨λhz=>?_,λhz=>?_⟩]
  ·rcases dH.1 ((h z).1 (dA _ hz))with e|e
   ·subst e;exact absurd (a1 z hz) (irr z)
   ·exact e
  ·rcases dH.1 ((h z).2 (dA _ hz))with e|e
   ·subst e;exact absurd (b1 z hz) (irr z)
   ·exact e
theorem Cn.uniq(h:Cn xs rs)(h':Cn xs rs'):rs=rs':=akp h.inc h'.inc λr=>⟨h.mem h',h'.mem h⟩
theorem Cn.self(h:Cn xs rs):Cn rs rs:=⟨h.inc,λ_ h=>h,λx hx=>⟨x,hx,by rw[IR];exact⟨rfl,rfl⟩,CT⟩⟩
def cgo{β:Type}(eq:β->β->Bool)(p:β):List β->List β
 |[]=>[]
 |y::l=>cond (eq y p) (cgo eq y l) (y::cgo eq y l)
def afh{β:Type}(eq:β->β->Bool):List β->List β
 |[]=>[]
 |x::l=>x::cgo eq x l
theorem ajS{β:Type}{eq:β->β->Bool}:∀{l:List β} {p r:β},r∈cgo eq p l->r∈l
 |y::l,p,r,h=>by
  unfold cgo at h;cases e:eq y p with
  |true=>rw[e]at h;exact dA _ (ajS h)
  |false=>
   rw[e]at h;rcases dH.1 h with rfl|h
   ·exact cZ ..
   ·exact dA _ (ajS h)
variable{β:Type}
theorem aly{eq:β->β->Bool}:∀{l:List β} {r:β},r∈afh eq l->r∈l
 |x::l,r,h=>by
  rcases dH.1 h with rfl|h
  ·exact cZ ..
  ·exact dA _ (ajS h)
theorem ajT{β γ:Type}{eq:β->β->Bool}{eq':γ->γ->Bool}(f:β->γ)(h:∀a b,eq a b=eq' (f a) (f b)):∀(l:List β) (p:β),(cgo eq p l).map f=cgo eq' (f p) (l.map f)
 |[],_=>rfl
 |y::l,p=>by
  rw[ic,cgo,cgo,<- h];cases eq y p with
  |true=>exact ajT f h l y
  |false=>
   show f y::(cgo eq y l).map f=f y::_;rw[ajT f h l y]
theorem alz{γ:Type}{eq:β->β->Bool}{eq':γ->γ->Bool}(f:β->γ)(h:∀a b,eq a b=eq' (f a) (f b)):∀(l:List β),(afh eq l).map f=afh eq' (l.map f)
 |[]=>rfl
 |x::l=>by
  show f x::(cgo eq x l).map f=f x::_;rw[ajT f h l x]
abbrev aeR(a b:Clue):Bool:=decide (ja a b=0)
theorem akr:∀(l:List Clue) (p:Clue),((p::l).Pairwise λx y=>¬D6 y x<0)->(p::cgo aeR p l).Pairwise (λa b=>ja a b<0)/\∀x∈l,(∃r∈p::cgo aeR p l,ja x r=0/\¬jP j3 x.values r.values<0)
 |[],p,_=>⟨List.pairwise_singleton ..,λx hx=>by cases hx⟩
 |y::l,p,h=>by
  obtain⟨h1,h2⟩:=rZ.1 h;have hyp:=h1 y (cZ ..);obtain⟨i1,i2⟩:=akr l y h2;obtain⟨i3,i4⟩:=rZ.1 i1;have hO:=Rb Ra;unfold cgo;by_cases e:ja y p=0
  ·rw[show aeR y p=true from eY e,cond_true];have ep:∀z,ja p z=ja y z:=λz=>by
    rw[IR]at e;unfold ja;rw[e.1,e.2]
   refine⟨rZ.2 ⟨λz hz=>by rw[ep];exact i3 z hz,i4⟩,λx hx=>?_⟩;have hp:∀x:Clue,ja x y=0->¬jP j3 x.values y.values<0->∃r∈p::cgo aeR y l,ja x r=0/\¬jP j3 x.values r.values<0:=λx q1 q2=>by
    refine⟨p,cZ ..,by rw[IR]at *;omega,λq=>?_⟩;have hpy:¬jP j3 y.values p.values<0:=λq=>hyp (ady.2 (.inr ⟨e,q⟩));by_cases e1:jP j3 x.values y.values=0
    ·rw[(hO.zero _ _).1 e1]at q;exact hpy q
    by_cases e2:jP j3 y.values p.values=0
    ·rw[<- (hO.zero _ _).1 e2]at q;exact q2 q
    have:=hO.neg p.values y.values;have:=hO.neg y.values p.values;have:=hO.neg y.values x.values;have:=hO.neg x.values y.values;have:=hO.trans p.values y.values x.values vj vj;have:=hO.neg p.values x.values;omega
   rcases dH.1 hx with rfl|hx
   ·exact hp x (by rw[IR];exact⟨rfl,rfl⟩) C0
   ·obtain⟨r,m,q1,q2⟩:=i2 x hx;rcases dH.1 m with rfl|m
    ·exact hp x q1 q2
    ·exact⟨r,dA _ m,q1,q2⟩
  ·rw[show aeR y p=false from aS e,cond_false];have hpy:ja p y<0:=by
    have:¬ja y p<0:=λq=>hyp (ady.2 (.inl q));rw[Cj]at *;rw[IR]at e;omega
   refine⟨rZ.2 ⟨λz hz=>?_,i1⟩,λx hx=>?_⟩
   ·rcases dH.1 hz with rfl|hz
    ·exact hpy
    ·exact MX hpy (i3 z hz)
   ·rcases dH.1 hx with rfl|hx
    ·exact⟨x,dA _ (cZ ..),by rw[IR];exact⟨rfl,rfl⟩,C0⟩
    ·obtain⟨r,m,q⟩:=i2 x hx;exact⟨r,dA _ m,q⟩
theorem alA{ys:List Clue}(hp:ys.Perm xs)(hs:ys.Pairwise λx y=>¬D6 y x<0):Cn xs (afh aeR ys):=by
 cases ys with
 |nil=>exact⟨List.Pairwise.nil,(λr hr=>by cases hr),(λx hx=>by have:=hp.mem_iff.2 hx;cases this)⟩
 |cons p l=>
  obtain⟨h1,h2⟩:=akr l p hs;refine⟨h1,λr hr=>hp.mem_iff.1 (aly hr),λx hx=>?_⟩;rcases dH.1 (hp.mem_iff.2 hx)with rfl|hx
  ·exact⟨x,cZ ..,by rw[IR];exact⟨rfl,rfl⟩,CT⟩
  ·exact h2 x hx
def opn(p:List Clue)(x:Clue):Bool:=match p.getLast? with
 |none=>true
 |some y=>decide (0<ja x y)
variable{p:List Clue}
theorem M9{x:Clue}:opn (p++[b]) x=decide (0<ja x b):=by
 unfold opn;rw[List.getLast?_append];rfl
theorem IU:0<ja a b↔ja b a<0:=by
 rw[Cj];exact hJ
structure Na(l p:List Clue)(n:Nat):Prop where
 inc:p.Pairwise λa b=>ja a b<0
 sub:∀r∈p,r∈l
 done:∀x∈l,opn p x=false->∃r∈p,ja x r=0/\¬jP j3 x.values r.values<0
 cnt:l.countP (opn p)+n<=l.length
variable{l:List Clue}
theorem alB:Na l [] 0:=⟨List.Pairwise.nil,(λr hr=>by cases hr),(λx hx h=>by cases h),List.countP_le_length⟩
theorem TM{α:Type}{p q:α->Bool}:∀{l:List α} {b:α},b∈l->p b=true->q b=false->(∀x,q x=true->p x=true)->l.countP q+1<=l.countP p
 |x::l,b,hb,h1,h2,h3=>by
  rw[List.countP_cons,List.countP_cons];rcases dH.1 hb with rfl|hb
  ·have:=List.countP_mono_left (l:=l) (p:=q) (q:=p) λx _=>h3 x;rw[h1,h2];simp only[if_true];simp;omega
  ·have:=TM hb h1 h2 h3;by_cases e:q x=true
   ·rw[if_pos e,if_pos (h3 x e)];omega
   ·rw[if_neg e];omega
theorem TN:∀{p:List Clue} {y:Clue},(p.Pairwise λa b=>ja a b<0)->p.getLast? =some y->∀a∈p,a=y\/ja a y<0
 |[],y,_,h,a,ha=>by cases ha
 |[x],y,_,h,a,ha=>by
  cases h;exact .inl (bK.1 ha)
 |x::z::p,y,hp,h,a,ha=>by
  obtain⟨h1,h2⟩:=rZ.1 hp;have h':(z::p).getLast? =some y:=by rw[List.getLast?_cons_cons]at h;exact h
  rcases dH.1 ha with rfl|ha
  ·exact .inr (h1 y (List.mem_of_getLast? h'))
  ·exact TN h2 h' a ha
variable{n:Nat}
theorem Na.step(h:Na l p n)(hb:b∈l)(ho:opn p b=true)(hl:∀x∈l,opn p x=true->¬D6 x b<0):Na l (p++[b]) (n+1):=by
 have hab:∀y,p.getLast? =some y->ja y b<0:=λy hy=>by
  unfold opn at ho;rw[hy]at ho;exact IU.1 (gQ ho)
 refine⟨JY.2 ⟨h.inc,List.pairwise_singleton ..,λa ha b' hb'=>?_⟩,λr hr=>?_,λx hx hc=>?_,?_⟩
 ·rw[bK.1 hb'];cases e:p.getLast? with
  |none=>rw[List.getLast?_eq_none_iff.1 e]at ha;cases ha
  |some y=>
   have h2:=hab y e;rcases TN h.inc e a ha with rfl|h1
   ·exact h2
   ·exact MX h1 h2
 ·rcases dW.1 hr with hr|hr
  ·exact h.sub r hr
  ·rw[bK.1 hr];exact hb
 ·rw[M9]at hc;have hc:=mV hc;cases e:opn p x with
  |true=>
   have h1:=hl x hx e;rw[ady]at h1;refine⟨b,vm,?_,?_⟩
   ·by_cases h2:ja x b<0
    ·exact absurd (.inl h2) h1
    ·omega
   ·intro h2;by_cases h3:ja x b<0
    ·exact h1 (.inl h3)
    ·exact h1 (.inr ⟨vj,h2⟩)
  |false=>
   obtain⟨r,m,q⟩:=h.done x hx e;exact⟨r,jW _ m,q⟩
 ·have:=TM (p:=opn p) (q:=opn (p++[b])) hb ho (by rw[M9];exact aS (by rw[IU,Cj];omega)) (λx hx=>by
   rw[M9]at hx;have hx:=gQ hx;unfold opn;cases e:p.getLast? with
   |none=>rfl
   |some y=>exact eY (IU.2 (MX (hab y e) (IU.1 hx))))
  have:=h.cnt;omega
theorem Na.stop(h:Na l p n)(hn:∀x∈l,opn p x=false):Cn l p:=⟨h.inc,h.sub,λx hx=>h.done x hx (hn x hx)⟩
theorem Na.full(h:Na l p l.length):Cn l p:=h.stop λx hx=>by
 have h1:=h.cnt;have h2:l.countP (opn p)=0:=vj
 rw[List.countP_eq_zero]at h2;simpa using h2 x hx
end Kd
namespace Kd
open Canon
variable{rs:List Clue}
theorem alC(h:rs.Pairwise λa b=>ja a b<0):rs.Nodup:=h.imp λ{a b} hab he=>by rw[he,Cj]at hab;omega
theorem aks{α:Type}[DecidableEq α]:∀{a b:List α},a.Nodup->(∀x∈a,x∈b)->a.length<=b.length
 |[],_,_,_=>bQ _
 |x::a,b,hn,h=>by
  obtain⟨h1,h2⟩:=wo.1 hn;have hx:=h x (cZ ..);have:=aks (b:=b.erase x) h2 λy hy=>(akg (by rintro rfl;exact h1 hy)).2 (h y (dA _ hy));rw[WL hx]at this;have:=akf hx;rw[oD];omega
theorem alD{xs:List Clue}(h:Cn xs rs):rs.length<=xs.length:=aks (alC h.inc) h.sub
end Kd
namespace Kd
open Go Go.Ideal
theorem Nc:∀{a b:List Int},a.Pairwise (·<·)->b.Pairwise (·<·)->(∀x,x∈a↔x∈b)->a=b
 |[],[],_,_,_=>rfl
 |[],y::b,_,_,h=>by have:=(h y).2 (cZ ..);cases this
 |x::a,[],_,_,h=>by have:=(h x).1 (cZ ..);cases this
 |x::a,y::b,ha,hb,h=>by
  have hxy:x=y:=by
   rcases dH.1 ((h x).1 (cZ ..))with e|hx
   ·exact e
   rcases dH.1 ((h y).2 (cZ ..))with e|hy
   ·exact e.symm
   have:=(rZ.1 ha).1 y hy;have:=(rZ.1 hb).1 x hx;omega
  subst hxy;rw[Nc (rZ.1 ha).2 (rZ.1 hb).2 λz=>?_];constructor
  ·intro hz;have:=(rZ.1 ha).1 z hz;exact(dH.1 ((h z).1 (dA _ hz))).resolve_left vj
  ·intro hz;have:=(rZ.1 hb).1 z hz;exact(dH.1 ((h z).2 (dA _ hz))).resolve_left vj
variable{n:Nat}{x:Int}
theorem adA:x∈upTo' n↔0<=x/\x<(n:Int):=by
 unfold upTo';rw[eG];constructor
 ·rintro⟨i,hi,rfl⟩;have:=oZ.1 hi;omega
 ·intro h;exact⟨x.toNat,oZ.2 vj,vj⟩
theorem adB(n:Nat):(upTo' n).Pairwise (·<·):=by
 unfold upTo';exact nw
def dM(n:Nat)(p:Int->Bool):List Int:=(upTo' n).filter p
theorem adC{p:Int->Bool}:x∈dM n p↔(0<=x/\x<(n:Int))/\p x=true:=by
 unfold dM;rw[rY,adA]
theorem IV(n:Nat)(p:Int->Bool):(dM n p).Pairwise (·<·):=List.Pairwise.filter _ (adB n)
theorem Ai(k:Nat)(p:Int->Bool):dM (k+1) p=dM k p++if p (k:Int)then[(k:Int)]else[]:=by
 unfold dM;rw[vK,FJ];congr 1;rw[FC];split<;>simp
theorem Aj(n:Nat)(p:Int->Bool):(dM n p).length<=n:=by
 unfold dM;refine oW (OX _ _) ?_;rw[oO];exact bV _
theorem IW{l:List Int}(hi:l.Pairwise (·<·)){n:Nat}{p:Int->Bool}(h:∀x,x∈l↔(0<=x/\x<(n:Int))/\p x=true):l=dM n p:=
 Nc hi (IV n p) λx=>(h x).trans adC.symm
theorem adD(n:Nat)(holes:List Int):gp n holes=dM n λi=>!decide (i∈holes):=rfl
variable{holes:List Int}
theorem TP(hi:holes.Pairwise (·<·))(hm:∀x∈holes,0<=x/\x<(n:Int)):dM n (λi=>decide (i∈holes))=holes:=
 (IW hi λx=>⟨λh=>⟨hm x h,eY h⟩,λh=>gQ h.2⟩).symm
theorem adE(hi:holes.Pairwise (·<·))(hm:∀x∈holes,0<=x/\x<(n:Int)):(gp n holes).length+holes.length=n:=by
 have h1:(dM n λi=>decide (i∈holes)).length=holes.length:=by rw[TP hi hm]
 have h2:=List.length_eq_countP_add_countP (λi:Int=>decide (i∈holes)) (l:=upTo' n);rw[oO,List.countP_eq_length_filter,List.countP_eq_length_filter]at h2;have h3:gp n holes=List.filter (λa=>decide ¬decide (a∈holes)=true) (upTo' n):=by
  rw[adD];unfold dM;congr 1;funext i
  by_cases h:i∈holes<;>simp[h]
 rw[h3];unfold dM at h1;omega
structure adF(s w h:Int)(holes:List Int):Prop where
 sh:s=1\/s=2
 wi:1<=w/\w<=16
 he:1<=h/\h<=16
 inc:holes.Pairwise (·<·)
 mem:∀x∈holes,0<=x/\x<w*h
 ne:l5 w h holes≠[]
theorem vO{s w h:Int}:adF s w h holes↔om s w h holes:=by
 have key:(1<=w/\w<=16)->(1<=h/\h<=16)->holes.Pairwise (·<·)->(∀x∈holes,0<=x/\x<w*h)->(l5 w h holes≠[]↔(holes.length:Int)<w*h):=by
  intro hw hh hi hm;have hb:=vH hw hh;obtain⟨m,hmm⟩:=iO (show 0<=w*h by omega);rw[hmm]at hm⊢;unfold l5;rw[hmm,gy];have:=adE hi hm;rw[<- AX];omega
 exact⟨λq=>⟨q.sh,q.wi,q.he,(key q.wi q.he q.inc q.mem).1 q.ne,q.inc,q.mem⟩,λq=>⟨q.sh,q.wi,q.he,q.inc,q.mem,(key q.wi q.he q.inc q.mem).2 q.len⟩⟩
def gW(g:bz)(c:Int):Int×Int:=((g.cells[c.toNat]?).map (nC g)).getD (0,0)
variable{g:bz}{k:Nat}
theorem Co(h:g.cells[k]? =some x):gW g (k:Int)=nC g x:=by
 unfold gW;rw[gy,h];rfl
theorem EN{q:Int×(Int×Int)}:q∈bB g↔(0<=q.1/\q.1<(g.cells.length:Int))/\q.2=gW g q.1:=by
 constructor
 ·intro h;refine⟨IL q h,?_⟩;obtain⟨k,hk⟩:=uW.1 h;have h1:=xq hk;have hkl:=(bC.1 hk).1;rw[pM]at hkl;have hx:g.cells[k]? =some g.cells[k]:=bW hkl;rw[xm hx]at hk;have hk:=Option.some.inj hk;rw[h1,Co hx,<- hk]
 ·rintro⟨⟨h1,h2⟩,h3⟩;have hkl:q.1.toNat<g.cells.length:=by omega
  have hx:g.cells[q.1.toNat]? =some g.cells[q.1.toNat]:=bW hkl;have h4:=xm hx;rw[show((q.1.toNat:Nat):Int)=q.1 by omega]at h4;have h5:gW g q.1=nC g g.cells[q.1.toNat]:=by
   have:=Co hx
   rwa [show((q.1.toNat:Nat):Int)=q.1 by omega]at this
  rw[<- h5,<- h3]at h4;exact aP h4
def xy(sh:Int)(s t:Int×Int):Bool:=
 if sh=1 then(decide (t.2 - s.2=0)&&(decide (t.1 - s.1=1)||decide (t.1 - s.1= -1)))||(decide (t.1 - s.1=0)&&(decide (t.2 - s.2=1)||decide (t.2 - s.2= -1)))
 else(decide (t.1 - s.1=1)&&decide (t.2 - s.2=0))||(decide (t.1 - s.1= -1)&&decide (t.2 - s.2=0))||(decide (t.1 - s.1=0)&&decide (t.2 - s.2=1))||(decide (t.1 - s.1=0)&&decide (t.2 - s.2= -1))||(decide (t.1 - s.1=1)&&decide (t.2 - s.2= -1))||(decide (t.1 - s.1= -1)&&decide (t.2 - s.2=1))
theorem adG{s t:Int×Int}:xy g.shape s t=true↔∃d∈dZ.take (dP g),t=(s.1+d.1,s.2+d.2):=by
 obtain⟨s1,s2⟩:=s;obtain⟨t1,t2⟩:=t;unfold xy dP;by_cases h:g.shape=1
 ·rw[if_pos h,if_pos h];simp[dZ];omega
 ·rw[if_neg h,if_neg h];simp[dZ];omega
theorem adH(hg:eD g){p:Int×(Int×Int)}:lJ g p=dM g.cells.length λb=>xy g.shape p.2 (gW g b):=by
 refine IW (M4 hg p) λc=>?_;rw[M0 hg,adG];constructor
 ·rintro⟨d,hd,q,hq,h1,rfl⟩;obtain⟨h2,h3⟩:=EN.1 hq;exact⟨h2,d,hd,h3▸h1⟩
 ·rintro⟨h2,d,hd,h1⟩;exact⟨d,hd,(c,gW g c),EN.2 ⟨h2,rfl⟩,h1,rfl⟩
theorem TQ(hg:eD g){k:Nat}(hk:k<g.cells.length):(bI g)[k]? =some (dM g.cells.length λb=>xy g.shape (gW g k) (gW g b)):=by
 unfold bI;have hx:g.cells[k]? =some g.cells[k]:=bW hk;rw[dK,xm hx,jU,adH hg,Co hx]
theorem EA{α β:Type}[DecidableEq α](b:α)(v:β):∀m:List (α×β),(upd b v m).map (·.1)=if b∈m.map (·.1)then m.map (·.1)else m.map (·.1)++[b]
 |[]=>by
  rw[if_neg vm];rfl
 |(a,u)::m=>by
  unfold upd;by_cases e:b=a
  ·rw[if_pos e,if_pos (by rw[e];simp),e];rfl
  ·rw[if_neg e,ic,ic,EA b v m];by_cases h:b∈m.map (·.1)
   ·rw[if_pos h,if_pos (dA _ h)]
   ·rw[if_neg h,if_neg (by rw[dH,not_or];exact⟨e,h⟩)];rfl
def nD(kf:Int×Int->Int×Bool)(ps:List (Int×(Int×Int)))(n:Int):List Int:=(ps.filter λp=>(kf p.2).2&&decide ((kf p.2).1=n)).map (·.1)
theorem Nf(kf:Int×Int->Int×Bool)(ps:List (Int×(Int×Int)))(p:Int×(Int×Int))(n:Int):nD kf (ps++[p]) n=nD kf ps n++if((kf p.2).2&&decide ((kf p.2).1=n))=true then[p.1]else[]:=by
 unfold nD;rw[FJ,fD];congr 1;rw[FC];split<;>simp
theorem TR(kf:Int×Int->Int×Bool)(m:Nat):∀ps:List (Int×(Int×Int)),ps.length=m->((ji kf ps).map (·.1)).Nodup/\∀n,(n∈(ji kf ps).map (·.1)↔nD kf ps n≠[])/\(dG n (ji kf ps)).getD []=nD kf ps n:=by
 induction m with
 |zero=>
  intro ps h;rw[jw.1 h];exact⟨wy,λn=>⟨by simp[ji,nD],rfl⟩⟩
 |succ m ih=>
  intro ps h;obtain⟨qs,p,rfl⟩:∃qs p,ps=qs++[p]:=⟨ps.dropLast,ps.getLast x6,(A8 _).symm⟩
  obtain⟨h1,h2⟩:=ih qs wq;rw[EE];unfold vJ;cases hb:(kf p.2).2 with
  |false=>
   refine⟨h1,λn=>?_⟩;rw[Nf,hb,if_neg vm,iI];exact h2 n
  |true=>
   dsimp only[cond];rw[EA];refine⟨?_,λn=>⟨?_,?_⟩⟩
   ·split
    ·exact h1
    ·rename_i hn;rw[gX];exact⟨h1,vm,λa ha b hb'=>by rw[bK.1 hb'];exact λe=>hn (e▸ha)⟩
   ·rw[Nf,hb];by_cases e:(kf p.2).1=n
    ·have hc:(true&&decide ((kf p.2).1=n))=true:=by simp[e]
     rw[if_pos hc];split
     ·rename_i hn;rw[e]at hn;exact⟨λ_=>by simp,λ_=>hn⟩
     ·rw[e];exact⟨λ_=>by simp,λ_=>oF _ (bK.2 rfl)⟩
    ·have hc:¬(true&&decide ((kf p.2).1=n))=true:=by simp[e]
     rw[if_neg hc,iI];split
     ·exact(h2 n).1
     ·rw[dW,(h2 n).1];simp only[bK];exact⟨λh=>h.resolve_right (λx=>e x.symm),.inl⟩
   ·rw[xu,Nf,hb];by_cases e:(kf p.2).1=n
    ·rw[if_pos e.symm,if_pos (by simp[e]),uT,(h2 _).2,e]
    ·rw[if_neg (λx=>e x.symm),if_neg (by simp[e]),iI];exact(h2 n).2
theorem TS(kf:Int×Int->Int×Bool)(n:Int):nD kf (bB g) n=dM g.cells.length λc=>(kf (gW g c)).2&&decide ((kf (gW g c)).1=n):=by
 refine IW ?_ λc=>?_
 ·unfold nD;rw[xU];refine List.Pairwise.filter _ ?_;rw[zm];intro i j hi hj hij;have h1:=xq (bW hi);have h2:=xq (bW hj);rw[h1,h2];omega
 ·unfold nD;rw[eG];constructor
  ·rintro⟨p,hp,rfl⟩;obtain⟨h1,h2⟩:=rY.1 hp;obtain⟨h3,h4⟩:=EN.1 h1;rw[<- h4];exact⟨h3,h2⟩
  ·rintro⟨h1,h2⟩;exact⟨(c,gW g c),rY.2 ⟨EN.2 ⟨h1,rfl⟩,h2⟩,rfl⟩
def eH(lo:Int)(k:Nat):List Int:=(List.range k).map λi:Nat=>lo+(i:Int)
theorem adI(lo:Int)(k:Nat):eH lo (k+1)=eH lo k++[lo+(k:Int)]:=by
 unfold eH;rw[JW,fD];rfl
theorem adJ{lo:Int}:x∈eH lo k↔lo<=x/\x<lo+(k:Int):=by
 unfold eH;rw[eG];constructor
 ·rintro⟨i,hi,rfl⟩;have:=oZ.1 hi;omega
 ·intro h;exact⟨(x - lo).toNat,oZ.2 vj,vj⟩
theorem adK(lo:Int)(k:Nat):(eH lo k).Pairwise (·<·):=by
 unfold eH;exact nw
def yQ(L:Int->List Int)(lo:Int)(k:Nat):List (List Int):=((eH lo k).map L).filter λl=>!l.isEmpty
theorem TT(L:Int->List Int)(lo:Int)(k:Nat):yQ L lo (k+1)=yQ L lo k++if L (lo+(k:Int))=[]then[]else[L (lo+(k:Int))]:=by
 unfold yQ;rw[adI,fD,FJ];congr 1;rw[r9,FC];cases h:L (lo+(k:Int))with
 |nil=>rfl
 |cons x l=>simp
theorem TU(kf:Int×Int->Int×Bool){lo:Int}{k:Nat}(hk:∀p∈bB g,(kf p.2).2=true->lo<=(kf p.2).1/\(kf p.2).1<lo+(k:Int)):iL g kf=yQ (nD kf (bB g)) lo k:=by
 obtain⟨h1,h2⟩:=TR kf _ (bB g) rfl;have h3:bM ((ji kf (bB g)).map (·.1))=(eH lo k).filter λn=>!(nD kf (bB g) n).isEmpty:=by
  refine Nc (IP h1) (List.Pairwise.filter _ (adK lo k)) λn=>?_;rw[uD,(h2 n).1,rY,adJ];have hne:((!(nD kf (bB g) n).isEmpty)=true)↔nD kf (bB g) n≠[]:=by
   cases nD kf (bB g) n<;>simp
  rw[hne];refine⟨λh=>⟨?_,h⟩,λh=>h.2⟩;obtain⟨c,hc⟩:=List.exists_mem_of_ne_nil _ h;unfold nD at hc;obtain⟨p,hp,_⟩:=eG.1 hc;obtain⟨hp1,hp2⟩:=rY.1 hp;simp only[eB,zh]at hp2;rw[<- hp2.2];exact hk p hp1 hp2.1
 unfold iL yQ;rw[h3,List.filter_map];refine AY λn _=>?_;exact(h2 n).2
theorem IX(c:Int×Int->Bool):iL g (λs=>(0,c s))=if dM g.cells.length (λb=>c (gW g b))=[]then[]else[dM g.cells.length λb=>c (gW g b)]:=by
 rw[TU (lo:=0) (k:=1) (λs=>(0,c s)) (λp _ _=>⟨Int.le_refl 0,vj⟩)];rw[show(1:Nat)=0+1 from rfl,TT];have e:nD (λs=>(0,c s)) (bB g) (0+((0:Nat):Int))=dM g.cells.length λb=>c (gW g b):=by
  rw[TS];congr 1;funext b
  simp
 rw[e];rfl
theorem adL(hg:eD g){k:Nat}{l:List Int}(hl:(bI g)[k]? =some l):bM (l++[(k:Int)])=dM g.cells.length λb=>decide (b=(k:Int))||decide (b∈l):=by
 have hk:k<g.cells.length:=by have:=(bC.1 hl).1;rwa [uC]at this
 have hls:∀c∈l,(0<=c/\c<(g.cells.length:Int)):=(EI l (aP hl)).2;have hlt:l.Pairwise (·<·):=by
  have:=TQ hg hk;rw[hl]at this;rw[Option.some.inj this];exact IV _ _
 have hkl:(k:Int)∉l:=λh=>by
  obtain⟨j,hj⟩:=uW.1 h;exact(TJ hg k l hl j k hj).2.2.1 rfl
 refine IW (IP ?_) λc=>?_
 ·rw[gX];exact⟨hlt.imp (λh=>by omega),vm,λa ha b hb=>by rw[bK.1 hb];exact λe=>hkl (e▸ha)⟩
 ·rw[uD,dW,bK];simp only[qM,zh];constructor
  ·rintro(h|rfl)
   ·exact⟨hls c h,.inr h⟩
   ·exact⟨vj,.inl rfl⟩
  ·rintro⟨_,h|h⟩
   ·exact .inr h
   ·exact .inl h
