/-
  Part LibNW.
-/
import Derived.Test.YtfakljdleblkoaaGreatLibKW
import Derived.Test.YtfakljdleblkoaaGreatPlainDW
set_option linter.all false
set_option maxRecDepth 10000
set_option maxHeartbeats 4000000
namespace Go.Proofs.YtfakljdleblkoaaGreat
open Go.Ideal Kd Canon Gph
def jS(k:bS)(s t:List Int)(r:bA):Bool:=
 if r.kind=1\/r.kind=2 then iN (k.lists.getD r.family.toNat []) s r.family iT
 else if r.kind=3 then iN (k.lists.getD r.family.toNat []) s r.family iT&&kg (kP k) t
 else if r.kind=4 then iN (k.lists.getD r.family.toNat []) s r.family rF&&kg (kP k) t
 else if r.kind=5 then iN (k.lists.getD r.family.toNat []) s r.family qy
 else if r.kind=7 then jC k.aD s&&kg (kP k) t
 else if r.kind=6\/r.kind=8\/r.kind=9\/r.kind=10 then jC k.aD s
 else true
def keepR(k:bS)(s t:List Int)(r:bA):Bool:=lg r.set.toNat r.other.toNat t&&jS k s t r
structure nN(k:bS)(s t:List Int):Prop where
 pc:di k.grid.cells.length s
 ps:di k.decl.symbols.length t
 nA:∀r∈k.decl.rules,keepR k s t r=true
variable{k:bS}
theorem eF.Vp(h:eF k){f:Nat}{L:List (List Int)}(hL:k.lists[f]? =some L):oP k.grid.cells.length L (f:Int):=by
 rw[h.lists]at hL;rw[h.grid];exact ad5 h.bZ (λr hr=>⟨(h.typ.yX r hr).1.2,(h.typ.yX r hr).2⟩) hL
theorem eF.NY(h:eF k):tq k.grid.cells.length k.aD:=by
 rw[h.aD,h.grid];exact⟨uC _,λl hl=>(EI l hl).2⟩
theorem eF.kinds(h:eF k){r:bA}(hr:r∈k.decl.rules):1<=r.kind/\r.kind<=11:=by
 refine Vh ?_;have:=h.typ.read;exact kB
def akD(c:iJ)(r:bA):Prop:=((r.kind=2\/r.kind=3)/\c.type=2/\c.family=r.family)\/(r.kind=5/\c.type=3/\c.family=r.family)\/(r.kind=11/\c.type=1/\c.family=0)
theorem eF.amt(h:eF k){r:bA}(hr:r∈k.decl.rules):(r.aQ= -1/\r.kind≠5/\r.kind≠11)\/∃c,0<=r.aQ/\k.decl.aJ[r.aQ.toNat]? =some c/\akD c r:=by
 have hkd:=h.kinds hr;have hx:=(h.typ.form.lQ r hr).U4 _ rfl;have hcp:=λc (hc:k.decl.aJ[r.aQ.toNat]? =some c)=>(h.typ.form.jR _ c hc).2;have agN:r.kind=1\/r.kind=2\/r.kind=3\/r.kind=4\/r.kind=5\/r.kind=6\/r.kind=7\/r.kind=8\/r.kind=9\/r.kind=10\/r.kind=11:=vj
 have key:∀need:Int,need=(if(fH r.kind).op=true/\r.dm≠oz then 2 else(fH r.kind).aQ)->(need=0->r.kind≠5/\r.kind≠11)/\(need=2->r.kind=2\/r.kind=3)/\(need=3->r.kind=5)/\(need=1->r.kind=11)/\(need=0\/need=1\/need=2\/need=3):=by
  intro need hn;rcases agN with e|e|e|e|e|e|e|e|e|e|e;all_goals (rw[e]at hn⊢;simp[fH]at hn;(try split at hn)<;>(refine⟨λh=>?_,λh=>?_,λh=>?_,λh=>?_,?_⟩<;>omega))
 obtain⟨k0,k2,k3,k1,kk⟩:=key _ rfl;generalize(if(fH r.kind).op=true/\r.dm≠oz then 2 else(fH r.kind).aQ:Int)=need at hx k0 k1 k2 k3 kk;rcases hx with⟨a,_,b⟩|⟨a,b,_,c,c1,c2,c3⟩
 ·exact .inl ⟨b,k0 a⟩
 ·refine .inr ⟨c,b,c1,?_⟩;rcases kk with e|e|e|e
  ·exact absurd e a
  ·have:=hcp c c1;unfold ow at this;exact .inr (.inr ⟨k1 e,vj,vj⟩)
  ·exact .inl ⟨k2 e,vj,vj⟩
  ·exact .inr (.inl ⟨k3 e,vj,vj⟩)
theorem eF.amu(h:eF k){i:Nat}{c:iJ}(hc:k.decl.aJ[i]? =some c):∃r∈k.decl.rules,r.aQ=(i:Int)/\akD c r:=by
 have h1:=(h.typ.form.jR i c hc).1;have hm:(i:Int)∈k.decl.rules.map (·.aQ):=List.count_pos_iff.1 vj;obtain⟨r,hr,e⟩:=eG.1 hm;rcases h.amt hr with⟨a,_⟩|⟨c',b1,b2,b3⟩
 ·omega
 ·rw[e,gy,hc]at b2;cases b2;exact⟨r,hr,e,b3⟩
def Vq(c:iJ):List Int->List Int->Bool:=if c.type=3 then qy else iT
variable{s t:List Int}
theorem nN.rule(h:nN k s t){r:bA}(hr:r∈k.decl.rules):lg r.set.toNat r.other.toNat t=true/\
 ((r.kind=1\/r.kind=2\/r.kind=3)->iN (k.lists.getD r.family.toNat []) s r.family iT=true)/\((r.kind=3\/r.kind=4\/r.kind=7)->kg (kP k) t=true)/\
 (r.kind=4->iN (k.lists.getD r.family.toNat []) s r.family rF=true)/\(r.kind=5->iN (k.lists.getD r.family.toNat []) s r.family qy=true)/\((6<=r.kind/\r.kind<=10)->jC k.aD s=true):=by
 have h1:=h.nA r hr;unfold keepR jS at h1;rw[eB]at h1;refine⟨h1.1,?_⟩;have h2:=h1.2;refine⟨λe=>?_,λe=>?_,λe=>?_,λe=>?_,λe=>?_⟩
 ·rcases e with e|e|e
  ·rw[if_pos (.inl e)]at h2;exact h2
  ·rw[if_pos (.inr e)]at h2;exact h2
  ·rw[if_neg vj,if_pos e,eB]at h2;exact h2.1
 ·rcases e with e|e|e
  ·rw[if_neg vj,if_pos e,eB]at h2;exact h2.2
  ·rw[if_neg vj,if_neg vj,if_pos e,eB]at h2;exact h2.2
  ·rw[if_neg vj,if_neg vj,if_neg vj,if_neg vj,if_pos e,eB]at h2;exact h2.2
 ·rw[if_neg vj,if_neg vj,if_pos e,eB]at h2;exact h2.1
 ·rw[if_neg vj,if_neg vj,if_neg vj,if_pos e]at h2;exact h2
 ·rw[if_neg vj,if_neg vj,if_neg vj,if_neg vj]at h2;by_cases e7:r.kind=7
  ·rw[if_pos e7,eB]at h2;exact h2.1
  ·rw[if_neg e7,if_pos vj]at h2;exact h2
theorem amv(hK:eF k)(hk:nN k s t){i:Nat}{c:iJ}(hc:k.decl.aJ[i]? =some c):∃L,k.lists[c.family.toNat]? =some L/\oP k.grid.cells.length L c.family/\∀j,j<L.length->∃i,Goes L s c.family (Vq c) j i:=by
 have hf:=hK.iK c (aP hc);have hL:k.lists[c.family.toNat]? =some (k.lists[c.family.toNat]'(vj)):=bW _;have xI:=hK.Vp hL;rw[CY hf.1]at xI;refine⟨_,hL,xI,?_⟩;obtain⟨r,hr,e,hcr⟩:=hK.amu hc;obtain⟨_,k1,_,_,k5,_⟩:=hk.rule hr;unfold Vq;rcases hcr with⟨a,b,d⟩|⟨a,b,d⟩|⟨a,b,d⟩
 ·rw[if_neg vj];have:=k1 vj;rw[<- d,gz hL]at this;exact(EP xI hk.pc).1 this
 ·rw[if_pos b];have:=k5 a;rw[<- d,gz hL]at this;exact(EP xI hk.pc).1 this
 ·rw[if_neg vj];intro j hj;have hl0:k.lists[c.family.toNat]? =some (lK k.grid.cells.length):=by
   rw[d,hK.lists,hK.grid];rfl
  rw[hL]at hl0;have hl0:=Option.some.inj hl0;have hn:(lK k.grid.cells.length).length=k.grid.cells.length:=MQ _;rw[hl0]at hj⊢;have hr2:=hk.pc.at_ (c:=(j:Int)) vj vj;have hget:∀m,m<k.grid.cells.length->(lK k.grid.cells.length)[m]? =some [(m:Int)]:=λm hm=>by
   unfold lK;rw[dK,qN hm];rfl
  refine⟨(aR s (j:Int)).toNat,_,_,hget j vj,hget _ vj,?_,?_,λ_=>CY hr2.1⟩
  ·rw[CY hr2.1];exact List.Perm.refl _
  ·rw[CY hr2.1];exact Al.2 (List.Perm.refl _)
def ags(s l l':List Int):Bool:=!decide (img s l=l')&&decide ((img s l).reverse=l')
def Vr(c:iJ)(s t l l' v:List Int):List Int:=if c.type=1 then img t v else if c.type=3/\ags s l l'=true then v.reverse else v
def Vs(k:bS)(s t:List Int)(g:Clue):Clue:=
 match k.decl.aJ[g.aQ.toNat]? with
 |none=>g
 |some c=>⟨g.aQ,iM (k.lists.getD c.family.toNat []) s c.family g.at_,Vr c s t ((k.lists.getD c.family.toNat []).getD g.at_.toNat []) ((k.lists.getD c.family.toNat []).getD (iM (k.lists.getD c.family.toNat []) s c.family g.at_).toNat []) g.values⟩
structure Vt(k:bS)(s t:List Int)(g:Clue)(c:iJ)(L:List (List Int))(j i:Nat)(l l':List Int):Prop where
 aQ:0<=g.aQ
 hc:k.decl.aJ[g.aQ.toNat]? =some c
 hL:k.lists[c.family.toNat]? =some L
 iK:oP k.grid.cells.length L c.family
 at_:g.at_=(j:Int)
 hl:L[j]? =some l
 hl':L[i]? =some l'
 goes:Goes L s c.family (Vq c) j i
 perm:l'.Perm (img s l)
 eq:Vq c l' (img s l)=true
 img:Vs k s t g=⟨g.aQ,(i:Int),Vr c s t l l' g.values⟩
 cells:nT k g=l
 cells':nT k (Vs k s t g)=l'
theorem goG(hK:eF k)(hk:nN k s t){g:Clue}(hg:EG k g):∃c L j i l l',Vt k s t g c L j i l l':=by
 obtain⟨c,L,l,h1,h2,h3,h4,h5,h6,h7⟩:=hg.cells;obtain⟨L',hL',xI,hgo⟩:=amv hK hk h1;rw[h2]at hL';cases hL';obtain⟨j,hj⟩:=iO h5;rw[hj,gy]at h3;obtain⟨i,hgi⟩:=hgo j vj;have hw:=hgi.iM xI;have amw:=hgi;obtain⟨l0,l',a1,a2,a3,a4,a5⟩:=hgi;rw[h3]at a1;cases a1;have him:Vs k s t g=⟨g.aQ,(i:Int),Vr c s t l l' g.values⟩:=by
  unfold Vs;rw[h1];dsimp only;rw[gz h2,hj,hw,gy,gy,gz h3,gz a2]
 refine⟨c,L,j,i,l,l',h4,h1,h2,xI,hj,h3,a2,amw,a3,a4,him,h7,?_⟩;rw[him];unfold nT TE;dsimp only;rw[h1];dsimp only;rw[gz h2,gy,gz a2]
theorem aj4(hK:eF k)(hk:nN k s t){g:Clue}(hg:EG k g):EG k (Vs k s t g):=by
 obtain⟨c,L,j,i,l,l',G⟩:=goG hK hk hg;obtain⟨c',L',h1,h2,h3,h4,h5,h6⟩:=hg;rw[G.hc]at h2;cases h2;rw[G.img];have hi:=(bC.1 G.hl').1;refine⟨c,L,h1,G.hc,G.hL,by show(0:Int)<=(i:Int);omega,by show(i:Int)<_;omega,?_⟩;unfold Vr;dsimp only;rcases h6 with⟨a,b,d⟩|⟨a,b,d⟩|⟨a,a2,b,d⟩
 ·refine .inl ⟨a,?_⟩;rw[if_pos a,EO];refine⟨b,λx hx=>?_⟩;obtain⟨v,hv,rfl⟩:=eG.1 hx;have:=d v hv;have:=hk.ps.at_ (c:=v) vj vj;omega
 ·refine .inr (.inl ⟨a,?_⟩);rw[if_neg vj,if_neg vj];exact⟨b,d⟩
 ·refine .inr (.inr ⟨a,a2,?_⟩);rw[if_neg a];split
  ·rw[FN];exact⟨b,λx hx=>d x (List.mem_reverse.1 hx)⟩
  ·exact⟨b,d⟩
variable{x:List Clue}
theorem amx(h:x.Pairwise λa b=>ja a b<0):∀(i:Nat) a b,x[i]? =some a->x[i+1]? =some b->ja a b<0:=by
 intro i a b ha hb;obtain⟨h1,h2⟩:=bC.1 ha;obtain⟨h3,h4⟩:=bC.1 hb;rw[<- h2,<- h4];exact zm.1 h i (i+1) h1 h3 vj
theorem aj5{p:List Clue}(hK:eF k)(hk:nN k s t)(hQ:Ck k p)(hx:Cn (p.map (Vs k s t)) x):Ck k x:=by
 refine⟨?_,λg hg=>?_,amx hx.inc⟩
 ·have:=alD hx;rw[cz]at this;have:=hQ.len;omega
 ·obtain⟨a,ha,rfl⟩:=eG.1 (hx.sub g hg);exact aj4 hK hk (hQ.right a ha)
end Go.Proofs.YtfakljdleblkoaaGreat
namespace Go.Proofs.YtfakljdleblkoaaGreat
open Go.Ideal Kd Canon Gph
def acN(s t grid:List Int):List Int:=img t (mJ grid (lN s))
structure mo(n m:Nat)(s t grid y:List Int):Prop where
 ps:di n s
 pt:di m t
 len:grid.length=n
 NZ:y.length=n
 vQ:∀x∈grid,0<=x/\x<(m:Int)
 at_:∀c,0<=c->c<(n:Int)->aR y (aR s c)=aR t (aR grid c)
variable{s t grid:List Int}
theorem amy:(acN s t grid).length=s.length:=by unfold acN mJ;rw[EO,cz,TV]
theorem amz{n m:Nat}(hs:di n s)(ht:di m t)(hl:grid.length=n)(hg:∀x∈grid,0<=x/\x<(m:Int)):mo n m s t grid (acN s t grid):=by
 refine⟨hs,ht,hl,by rw[amy];exact hs.len,hg,λc c0 c1=>?_⟩;have hr:=hs.at_ c0 c1;unfold acN;have h1:(lN s).length=n:=by rw[TV];exact hs.len
 have h2:=yR (a:=grid) (b:=lN s) (c:=aR s c) hr.1 (by rw[h1];exact hr.2);rw[hs.vP c0 c1]at h2;have h3:(mJ grid (lN s)).length=n:=by unfold mJ;rw[cz];exact h1
 have h4:mJ t (mJ grid (lN s))=img t (mJ grid (lN s)):=rfl;rw[<- h4,yR hr.1 (by rw[h3];exact hr.2),h2]
section
variable {n m:Nat} {s t grid y:List Int}
theorem mo.eH(h:mo n m s t grid y){c:Int}(c0:0<=c)(c1:c<(n:Int)):0<=aR grid c/\aR grid c<(m:Int):=h.vQ _ (Ng c0 (by rw[h.len];exact c1))
theorem mo.mem(h:mo n m s t grid y){d:Int}(hd:d∈y):0<=d/\d<(m:Int):=by
 obtain⟨i,hi⟩:=jT hd;have hl:=(bC.1 hi).1;obtain⟨c,c0,c1,hc⟩:=h.ps.onto (y:=(i:Int)) vj (by have:=h.NZ;omega);have h1:=h.at_ c c0 c1;rw[hc,l6 hi]at h1;rw[h1];have:=h.eH c0 c1;exact h.pt.at_ this.1 this.2
theorem N7(grid:List Int)(c:Int):sy grid c=(aR grid c).toNat:=rfl
theorem mo.sy(h:mo n m s t grid y){c:Int}(c0:0<=c)(c1:c<(n:Int)):sy y (aR s c)=(aR t (aR grid c)).toNat:=by rw[N7,h.at_ c c0 c1]
theorem agt{α:Type}{f g:Int->α}:∀{l:List Int},oq n l->(∀c,0<=c->c<(n:Int)->f (aR s c)=g c)->(img s l).map f=l.map g:=by
 intro l hl h;unfold img;rw[xS];exact AY λc hc=>h c (hl c hc).1 (hl c hc).2
def nO(m:Nat)(t:List Int)(set:Nat):Prop:=∀v:Int,0<=v->v<(m:Int)->set.testBit (aR t v).toNat=set.testBit v.toNat
theorem N8{set other:Nat}(ht:di m t)(h:lg set other t=true):nO m t set/\nO m t other:=by
 unfold lg at h;rw[lm]at h;constructor;all_goals (
  intro v v0 v1;have h1:=h v.toNat _ (Ak v0 (by rw[ht.len];exact v1));dsimp only at h1;rw[eB,jX,jX]at h1)
 ·exact h1.1.symm
 ·exact h1.2.symm
def tH(m:Nat)(t vals:List Int):Prop:=∀v:Int,0<=v->v<(m:Int)->aR vals (aR t v)=aR vals v
theorem N9{vals:List Int}(ht:di m t)(h:kg vals t=true):tH m t vals:=by
 unfold kg at h;rw[lm]at h;intro v v0 v1;have h1:=gQ (h v.toNat _ (Ak v0 (by rw[ht.len];exact v1)));dsimp only at h1;rw[CY v0]at h1;exact h1.symm
theorem mo.bit(h:mo n m s t grid y){set:Nat}(hS:nO m t set){c:Int}(c0:0<=c)(c1:c<(n:Int)):set.testBit (Go.Proofs.YtfakljdleblkoaaGreat.sy y (aR s c))=set.testBit (Go.Proofs.YtfakljdleblkoaaGreat.sy grid c):=by
 have r:=h.eH c0 c1;rw[h.sy c0 c1,hS _ r.1 r.2,N7]
theorem mo.cnt(h:mo n m s t grid y){set:Nat}(hS:nO m t set){l l':List Int}(hl:oq n l)(hp:l'.Perm (img s l)):Go.Proofs.YtfakljdleblkoaaGreat.cnt y set l'=Go.Proofs.YtfakljdleblkoaaGreat.cnt grid set l:=by
 unfold Go.Proofs.YtfakljdleblkoaaGreat.cnt;rw[(hp.filter _).length_eq];exact Nl hl λc c0 c1=>h.bit hS c0 c1
theorem mo.va(h:mo n m s t grid y){vals:List Int}(hV:tH m t vals){c:Int}(c0:0<=c)(c1:c<(n:Int)):va vals y (aR s c)=va vals grid c:=by
 have r:=h.eH c0 c1;have:=hV _ r.1 r.2;unfold Go.Proofs.YtfakljdleblkoaaGreat.va;rw[h.sy c0 c1,N7];exact this
theorem Jq(grid:List Int)(set:Nat):∀(l:List Int) (k:Nat),rn grid set k l=xz k (l.map λc=>set.testBit (sy grid c))
 |[],k=>rfl
 |c::l,k=>by
  rw[rn,ic];cases hb:set.testBit (sy grid c)with
  |true=>rw[if_pos rfl,adU,Jq grid set l (k+1)]
  |false=>rw[if_neg vm,adV,Jq grid set l 0]
theorem mo.rn(h:mo n m s t grid y){set:Nat}(hS:nO m t set){l:List Int}(hl:oq n l):rn y set 0 (img s l)=rn grid set 0 l:=by
 rw[Jq,Jq,agt (g:=λc=>set.testBit (Go.Proofs.YtfakljdleblkoaaGreat.sy grid c)) hl (λc c0 c1=>h.bit hS c0 c1)]
end
end Go.Proofs.YtfakljdleblkoaaGreat
namespace Go.Proofs.YtfakljdleblkoaaGreat
open Go.Ideal Kd Canon Gph
end Go.Proofs.YtfakljdleblkoaaGreat
namespace Go.Proofs.YtfakljdleblkoaaGreat
open Go.Ideal Kd Canon Gph
structure xH(eq:List Int->List Int->Bool):Prop where
 symm:∀a b,eq a b=true->eq b a=true
 trans:∀a b c,eq a b=true->eq b c=true->eq a c=true
 img:∀s a b,eq a b=true->eq (img s a) (img s b)=true
theorem Jr:xH iT:=by
 refine⟨λa b h=>?_,λa b c h1 h2=>?_,λs a b h=>?_⟩
 ·rw[Al]at h⊢;exact h.symm
 ·rw[Al]at h1 h2⊢;exact h1.trans h2
 ·rw[Al]at h⊢;exact I4 s h
theorem Vu:xH rF:=by
 refine⟨λa b h=>?_,λa b c h1 h2=>?_,λs a b h=>?_⟩
 ·unfold rF at h⊢;rw[jX]at h⊢;exact h.symm
 ·unfold rF at h1 h2⊢;rw[jX]at h1 h2⊢;exact h1.trans h2
 ·unfold rF at h⊢;rw[jX]at h⊢;rw[h]
theorem Vv:xH qy:=by
 refine⟨λa b h=>?_,λa b c h1 h2=>?_,λs a b h=>?_⟩
 ·rw[I7]at h⊢;rcases h with rfl|rfl
  ·exact .inl rfl
  ·exact .inr (by rw[List.reverse_reverse])
 ·rw[I7]at h1 h2⊢;rcases h1 with rfl|rfl
  ·exact h2
  ·rcases h2 with rfl|rfl
   ·exact .inr rfl
   ·exact .inl (by rw[List.reverse_reverse])
 ·rw[I7]at h⊢;rcases h with rfl|rfl
  ·exact .inl rfl
  ·exact .inr (adR s b)
section
variable {n m:Nat} {s t s2 t2:List Int} {L:List (List Int)} {f:Int} {eq:List Int->List Int->Bool}
theorem agu(hR:xH eq)(hK:oP n L f)(hs:di n s){j i:Nat}(h:Goes L s f eq j i):Goes L (lN s) f eq i j:=by
 obtain⟨l,l',h1,h2,h3,h4,h5⟩:=h;have hl:=hK.eH l (aP h1);refine⟨l',l,h2,h1,?_,?_,λhb=>?_⟩
 ·have:=I4 (lN s) h3;rw[I1 hs hl]at this;exact this.symm
 ·have:=hR.img (lN s) _ _ h4;rw[I1 hs hl]at this;exact hR.symm _ _ this
 ·have hn:=hK.len hb;have:=(bC.1 h1).1;rw[h5 hb,hs.vP vj vj]
theorem agv(hR:xH eq)(hK:oP n L f)(hs:di n s)(h:iN L s f eq=true):iN L (lN s) f eq=true:=by
 have h:=(EP hK hs).1 h;refine(EP hK hs.inv).2 λi hi=>?_;obtain⟨j,hj⟩:=adT hK hs h hi;exact⟨j,agu hR hK hs hj⟩
theorem agw(hR:xH eq)(hK:oP n L f)(hs:di n s)(hs2:di n s2){j i i2:Nat}(h:Goes L s f eq j i)(h2:Goes L s2 f eq i i2):Goes L (mJ s2 s) f eq j i2:=by
 obtain⟨l,l',a1,a2,a3,a4,a5⟩:=h;obtain⟨l0,l2,b1,b2,b3,b4,b5⟩:=h2;rw[a2]at b1;cases b1;have hl:=hK.eH l (aP a1);have hc:img (mJ s2 s) l=img s2 (img s l):=adP (by rw[hs.len];exact hl);refine⟨l,l2,a1,b2,?_,?_,λhb=>?_⟩
 ·rw[hc];exact b3.trans (I4 s2 a3)
 ·rw[hc];exact hR.trans _ _ _ b4 (hR.img s2 _ _ a4)
 ·have hn:=hK.len hb;have:=(bC.1 a1).1;rw[b5 hb,a5 hb,yR vj (by rw[hs.len];omega)]
theorem agx(hR:xH eq)(hK:oP n L f)(hs:di n s)(hs2:di n s2)(h:iN L s f eq=true)(h2:iN L s2 f eq=true):iN L (mJ s2 s) f eq=true:=by
 have h:=(EP hK hs).1 h;have h2:=(EP hK hs2).1 h2;refine(EP hK (hs2.comp hs)).2 λj hj=>?_;obtain⟨i,hi⟩:=h j hj;obtain⟨i2,hi2⟩:=h2 i hi.lt.2;exact⟨i2,agw hR hK hs hs2 hi hi2⟩
variable{set:Nat}
theorem Vw{other:Nat}(ht:di m t)(h1:nO m t set)(h2:nO m t other):lg set other t=true:=by
 unfold lg;rw[lm];intro i x hx;have hl:=(bC.1 hx).1;have hlen:=ht.len;have e:=l6 hx;have a:=h1 (i:Int) vj vj;have b:=h2 (i:Int) vj vj;rw[e,gy]at a b;dsimp only;rw[eB,jX,jX];exact⟨a.symm,b.symm⟩
variable{vals:List Int}
theorem Vx(ht:di m t)(h:tH m t vals):kg vals t=true:=by
 unfold kg;rw[lm];intro i x hx;have hl:=(bC.1 hx).1;have hlen:=ht.len;have a:=h (i:Int) vj vj;rw[l6 hx]at a;exact eY a.symm
theorem nO.inv(ht:di m t)(h:nO m t set):nO m (lN t) set:=by
 exact qk
theorem tH.inv(ht:di m t)(h:tH m t vals):tH m (lN t) vals:=by
 exact qk
theorem nO.comp(ht:di m t)(h:nO m t set)(h2:nO m t2 set):nO m (mJ t2 t) set:=by
 exact qv
theorem tH.comp(ht:di m t)(h:tH m t vals)(h2:tH m t2 vals):tH m (mJ t2 t) vals:=by
 exact qv
variable{aD:List (List Int)}
theorem agy(hN:tq n aD)(hs:di n s)(h:jC aD s=true):jC aD (lN s)=true:=by
 have h:=(EQ hN hs).1 h;refine(EQ hN hs.inv).2 λa b hab=>?_;obtain⟨c,d,hcd,rfl,rfl⟩:=T9 hN hs h hab;have hr:=hcd.eH hN;rw[hs.vP hr.1.1 hr.1.2,hs.vP hr.2.1 hr.2.2];exact hcd
theorem agz(hN:tq n aD)(hs:di n s)(hs2:di n s2)(h:jC aD s=true)(h2:jC aD s2=true):jC aD (mJ s2 s)=true:=by
 have h:=(EQ hN hs).1 h;have h2:=(EQ hN hs2).1 h2;refine(EQ hN (hs2.comp hs)).2 λa b hab=>?_;have hr:=hab.eH hN;have hl:=hs.len;rw[yR hr.1.1 vj,yR hr.2.1 vj];exact h2 _ _ (h _ _ hab)
end
variable{k:bS}{s t:List Int}
theorem agA{s' t':List Int}{r:bA}(hS:lg r.set.toNat r.other.toNat t=true->lg r.set.toNat r.other.toNat t'=true)
 (hL:∀eq,xH eq->iN (k.lists.getD r.family.toNat []) s r.family eq=true->iN (k.lists.getD r.family.toNat []) s' r.family eq=true)
 (hV:kg (kP k) t=true->kg (kP k) t'=true) (hN:jC k.aD s=true->jC k.aD s'=true) (h:keepR k s t r=true):keepR k s' t' r=true:=by
 unfold keepR jS at h⊢;rw[eB]at h⊢;refine⟨hS h.1,?_⟩;have h2:=h.2;split at h2
 ·rename_i e;rw[if_pos e];exact hL _ Jr h2
 rename_i e;rw[if_neg e];split at h2
 ·rename_i e;rw[if_pos e];rw[eB]at h2⊢;exact⟨hL _ Jr h2.1,hV h2.2⟩
 rename_i e;rw[if_neg e];split at h2
 ·rename_i e;rw[if_pos e];rw[eB]at h2⊢;exact⟨hL _ Vu h2.1,hV h2.2⟩
 rename_i e;rw[if_neg e];split at h2
 ·rename_i e;rw[if_pos e];exact hL _ Vv h2
 rename_i e;rw[if_neg e];split at h2
 ·rename_i e;rw[if_pos e];rw[eB]at h2⊢;exact⟨hN h2.1,hV h2.2⟩
 rename_i e;rw[if_neg e];split at h2
 ·rename_i e;rw[if_pos e];exact hN h2
 rename_i e;rw[if_neg e]
theorem eF.Vy(hK:eF k){r:bA}(hr:r∈k.decl.rules):oP k.grid.cells.length (k.lists.getD r.family.toNat []) r.family:=by
 have hin:=(hK.inr hr).iK;have hL:k.lists[r.family.toNat]? =some (k.lists[r.family.toNat]'(vj)):=bW _;have xI:=hK.Vp hL;rw[CY hin.1]at xI;rw[gz hL];exact xI
theorem nN.inv(hK:eF k)(h:nN k s t):nN k (lN s) (lN t):=by
 refine⟨h.pc.inv,h.ps.inv,λr hr=>?_⟩;refine agA (λa=>?_) (λeq hR a=>agv hR (hK.Vy hr) h.pc a) (λa=>Vx h.ps.inv (tH.inv h.ps (N9 h.ps a))) (λa=>agy hK.NY h.pc a) (h.nA r hr);obtain⟨b,c⟩:=N8 h.ps a;exact Vw h.ps.inv (nO.inv h.ps b) (nO.inv h.ps c)
theorem nN.comp{s2 t2:List Int}(hK:eF k)(h:nN k s t)(h2:nN k s2 t2):nN k (mJ s2 s) (mJ t2 t):=by
 refine⟨h2.pc.comp h.pc,h2.ps.comp h.ps,λr hr=>?_⟩;have g2:=h2.nA r hr;have k2:=h2.rule hr;unfold keepR jS at g2⊢;have g1:=h.nA r hr;unfold keepR jS at g1;rw[eB]at g1 g2⊢;have xI:=hK.Vy hr;have L1:∀eq,xH eq->iN (k.lists.getD r.family.toNat []) s r.family eq=true->iN (k.lists.getD r.family.toNat []) s2 r.family eq=true->iN (k.lists.getD r.family.toNat []) (mJ s2 s) r.family eq=true:=λeq hR a b=>agx hR xI h.pc h2.pc a b;have V1:kg (kP k) t=true->kg (kP k) t2=true->kg (kP k) (mJ t2 t)=true:=λa b=>Vx (h2.ps.comp h.ps) (tH.comp h.ps (N9 h.ps a) (N9 h2.ps b));have N1:jC k.aD s=true->jC k.aD s2=true->jC k.aD (mJ s2 s)=true:=λa b=>agz hK.NY h.pc h2.pc a b;obtain⟨b,c⟩:=N8 h.ps g1.1;obtain⟨b2,c2⟩:=N8 h2.ps g2.1;refine⟨Vw (h2.ps.comp h.ps) (nO.comp h.ps b b2) (nO.comp h.ps c c2),?_⟩;have g1:=g1.2;have g2:=g2.2;split at g1
 ·rename_i e;rw[if_pos e]at g2⊢;exact L1 _ Jr g1 g2
 rename_i e;rw[if_neg e]at g2⊢;split at g1
 ·rename_i e;rw[if_pos e]at g2⊢;rw[eB]at g1 g2⊢;exact⟨L1 _ Jr g1.1 g2.1,V1 g1.2 g2.2⟩
 rename_i e;rw[if_neg e]at g2⊢;split at g1
 ·rename_i e;rw[if_pos e]at g2⊢;rw[eB]at g1 g2⊢;exact⟨L1 _ Vu g1.1 g2.1,V1 g1.2 g2.2⟩
 rename_i e;rw[if_neg e]at g2⊢;split at g1
 ·rename_i e;rw[if_pos e]at g2⊢;exact L1 _ Vv g1 g2
 rename_i e;rw[if_neg e]at g2⊢;split at g1
 ·rename_i e;rw[if_pos e]at g2⊢;rw[eB]at g1 g2⊢;exact⟨N1 g1.1 g2.1,V1 g1.2 g2.2⟩
 rename_i e;rw[if_neg e]at g2⊢;split at g1
 ·rename_i e;rw[if_pos e]at g2⊢;exact N1 g1 g2
 rename_i e;rw[if_neg e]
theorem Vt.vals{g:Clue}{c:iJ}{L:List (List Int)}{j i:Nat}{l l':List Int}(G:Vt k s t g c L j i l l')(hR:EG k g):c.type=1->∀x∈g.values,0<=x/\x<(k.decl.symbols.length:Int):=by
 intro h1 x hx;obtain⟨c',L',a1,a2,a3,a4,a5,a6⟩:=hR;rw[G.hc]at a2;cases a2;rcases a6 with⟨_,_,b⟩|⟨b,_⟩|⟨b,_⟩
 ·have:=b x hx;omega
 ·omega
 ·omega
theorem amA{n:Nat}{a b:List Int}(ha:a.length=n)(hb:b.length=n)(h:∀c:Int,0<=c->c<(n:Int)->aR a c=aR b c):a=b:=by
 apply jv;intro i;by_cases hi:i<n
 ·have h1:=Ak (p:=a) (c:=(i:Int)) vj vj;have h2:=Ak (p:=b) (c:=(i:Int)) vj vj;rw[gy]at h1 h2;rw[h1,h2,h _ vj vj]
 ·rw[gJ vj,gJ vj]
section
variable {n m:Nat} {s t s2 t2 grid y z:List Int}
theorem mo.uniq(h:mo n m s t grid y)(h2:mo n m s t grid z):y=z:=by
 refine amA h.NZ h2.NZ λd d0 d1=>?_;obtain⟨c,c0,c1,rfl⟩:=h.ps.onto d0 d1;rw[h.at_ c c0 c1,h2.at_ c c0 c1]
theorem mo.back(h:mo n m s t grid y):mo n m (lN s) (lN t) y grid:=by
 refine⟨h.ps.inv,h.pt.inv,h.NZ,h.len,λx hx=>h.mem hx,λd d0 d1=>?_⟩;obtain⟨c,c0,c1,rfl⟩:=h.ps.onto d0 d1;have r:=h.eH c0 c1;rw[h.ps.vP c0 c1,h.at_ c c0 c1,h.pt.vP r.1 r.2]
theorem mo.comp(h:mo n m s t grid y)(h2:mo n m s2 t2 y z):mo n m (mJ s2 s) (mJ t2 t) grid z:=by
 refine⟨h2.ps.comp h.ps,h2.pt.comp h.pt,h.len,h2.NZ,h.vQ,λc c0 c1=>?_⟩;have r:=h.ps.at_ c0 c1;have g:=h.eH c0 c1;rw[yR c0 (by rw[h.ps.len];exact c1),h2.at_ _ r.1 r.2,h.at_ c c0 c1,yR g.1 (by rw[h.pt.len];exact g.2)]
end
