/-
  The ideal machine, 50: worlds with frozen blocks, facts, owned blocks; what holds of all of them.
-/
import Derived.Test.YtoohgkkmdnbnfaaGreatDoorIdealHB
set_option linter.all false
namespace Go.Ideal
variable {P:Program}
structure Wd where
 h:IH
 z:Nat->Prop
 j4:∀i,z i->i<h.next
structure Wd.Le(w w':Wd):Prop where
 next:w.h.next<=w'.h.next
 z:∀i,w.z i->w'.z i
 get:∀i,w.z i->w'.h.get i=w.h.get i
theorem Wd.Le.refl(w:Wd):w.Le w:=⟨bI _,λ_ h=>h,λ_ _=>rfl⟩
theorem Wd.Le.trans{w w' w'':Wd}(a:w.Le w')(b:w'.Le w''):w.Le w'':=
 ⟨mX a.next b.next,λi h=>b.z i (a.z i h),λi h=>(b.get i (a.z i h)).trans (a.get i h)⟩
structure aJ where
 p:Wd->Prop
 mono:∀{w w':Wd},w.Le w'->p w->p w'
def Fz(w:Wd)(b:Nat)(cs:List Value):Prop:=w.z b/\(w.h.get b=some (.cells cs)\/w.h.get b=some (.iR cs))
theorem Fz.mono{w w':Wd}(a:w.Le w'){b:Nat}{cs:List Value}(h:Fz w b cs):Fz w' b cs:=⟨a.z b h.1,by rw[a.get b h.1];exact h.2⟩
theorem Fz.cells{w:Wd}{b:Nat}{cs:List Value}(h:Fz w b cs):Cells w.h b cs:=⟨w.j4 b h.1,h.2⟩
def gH(b o:Nat)(cs:List Value):aJ:=
 ⟨λw=>∃cells,Fz w b cells/\∀(j:Nat) u,cs[j]? =some u->cells[o+j]? =some u,λa ⟨cells,h1,h2⟩=>⟨cells,h1.mono a,h2⟩⟩
structure Enc(α:Type) where
 n:Nat
 Y:Type
 pat:α->Y->List Value
 fs:α->Y->List aJ
 len:∀a y,(pat a y).length=n
def JJ(n:Nat):Option Addr->Prop
 |none=>True
 |some ⟨_,_,some f⟩=>f=0\/f=n
 |some ⟨_,_,none⟩=>False
def ah{α:Type}(E:Enc α)(v:Value)(xs:List α):aJ:=
 ⟨λw=>(xs=[]/\∃a c,v=.slice a 0 c/\JJ E.n a)\/∃i o f c cells,(v=.slice (some ⟨i,o,some f⟩) xs.length c/\xs.length<=c/\(f=0\/f=E.n))/\Fz w i cells/\
  ∀(k:Nat) x,xs[k]? =some x->∃y,(∀(j:Nat) u,(E.pat x y)[j]? =some u->cells[o+k*E.n+j]? =some u)/\∀f∈E.fs x y,f.p w,
  λa h=>by
   rcases h with h|⟨i,o,f,c,cells,h1,h2,h3⟩
   ·exact .inl h
   ·refine .inr ⟨i,o,f,c,cells,h1,h2.mono a,λk x hk=>?_⟩;obtain⟨y,q1,q2⟩:=h3 k x hk;exact⟨y,q1,λf hf=>f.mono a (q2 f hf)⟩⟩
def ae:Enc Int:=⟨1,Unit,λx _=>[.int .i64 x],λ_ _=>[],λ_ _=>rfl⟩
def OX:Enc Bool:=⟨1,Unit,λx _=>[.bool x],λ_ _=>[],λ_ _=>rfl⟩
def aN:Enc ByteArray:=⟨1,Unit,λx _=>[.string x],λ_ _=>[],λ_ _=>rfl⟩
def aj{α:Type}(E:Enc α):Enc (List α):=⟨1,Value,λ_ v=>[v],λxs v=>[ah E v xs],λ_ _=>rfl⟩
structure OA where
 p:Wd->List Nat->Prop
 loc:∀{w w':Wd} {S:List Nat},w.Le w'->(∀i∈S,w'.h.get i=w.h.get i)->p w S->p w' S
def pt(b:Nat)(o:dz):OA:=⟨λw S=>S=[b]/\w.h.get b=some o,λa h ⟨h1,h2⟩=>⟨h1,by rw[h b (by rw[h1];exact bG.2 rfl)];exact h2⟩⟩
def ap{α:Type}(E:Enc α)(v:Value)(xs:List α):OA:=
 ⟨λw S=>(xs=[]/\v=.slice none 0 0/\S=[])\/∃b o f cells,v=.slice (some ⟨b,o,some f⟩) xs.length xs.length/\(f=0\/f=E.n)/\S=[b]/\w.h.get b=some (.cells cells)/\cells.length=o+xs.length*E.n/\
  ∀(k:Nat) x,xs[k]? =some x->∃y,(∀(j:Nat) u,(E.pat x y)[j]? =some u->cells[o+k*E.n+j]? =some u)/\∀f∈E.fs x y,f.p w,
  λa h hp=>by
   rcases hp with hp|⟨b,o,f,cells,h1,h2,h3,h4,h5,h6⟩
   ·exact .inl hp
   ·refine .inr ⟨b,o,f,cells,h1,h2,h3,by rw[h b (by rw[h3];exact bG.2 rfl)];exact h4,h5,λk x hk=>?_⟩;obtain⟨y,q1,q2⟩:=h6 k x hk;exact⟨y,q1,λf hf=>f.mono a (q2 f hf)⟩⟩
def eZ(w:Wd):List OA->List Nat->Prop
 |[],S=>S=[]
 |A::kl,S=>∃S1 S2,A.p w S1/\eZ w kl S2/\S=S1++S2
theorem eZ.loc{w w':Wd}(a:w.Le w'):∀{kl:List OA} {S:List Nat},(∀i∈S,w'.h.get i=w.h.get i)->eZ w kl S->eZ w' kl S
 |[],S,_,h=>h
 |A::kl,S,hs,⟨S1,S2,h1,h2,e⟩=>⟨S1,S2,A.loc a (λi hi=>hs i (by rw[e];exact kw _ hi)) h1,eZ.loc a (λi hi=>hs i (by rw[e];exact ni _ hi)) h2,e⟩
theorem eZ.app{w:Wd}:∀{k1 k2:List OA} {S1 S2:List Nat},eZ w k1 S1->eZ w k2 S2->eZ w (k1++k2) (S1++S2)
 |[],k2,S1,S2,h1,h2=>by
  have h1:S1=[]:=h1;subst h1;exact h2
 |A::k1,k2,_,S2,⟨T1,T2,q1,q2,e⟩,h2=>⟨T1,T2++S2,q1,q2.app h2,by rw[e,fE]⟩
inductive ay{α:Type}(A:α):List α->List α->Prop
 |here {l:List α}:ay A (A::l) l
 |there {C:α} {l l':List α} (h:ay A l l'):ay A (C::l) (C::l')
inductive aH{α:Type}:List α->List α->List α->Prop
 |nil {l:List α}:aH [] l l
 |cons {A:α} {k l l' l'':List α} (h:ay A l l') (h2:aH k l' l''):aH (A::k) l l''
theorem ay.app{α:Type}{A:α}{l l':List α}(h:ay A l l'):∀k:List α,ay A (k++l) (k++l')
 |[]=>h
 |_::k=>.there (ay.app h k)
theorem aH.self{α:Type}:∀k r:List α,aH k (k++r) r
 |[],_=>.nil
 |_::k,r=>.cons .here (aH.self k r)
theorem aH.all{α:Type}(k:List α):aH k k []:=by
 have:=aH.self k []
 rwa [gD]at this
theorem aH.there{α:Type}{k l l':List α}(A:α)(h:aH k l l'):aH k (A::l) (A::l'):=by
 induction h with
 |nil=>exact .nil
 |cons h1 _ ih=>exact .cons (.there h1) ih
theorem eZ.fK{w:Wd}{A:OA}:∀{kl kl':List OA} {S:List Nat},ay A kl kl'->eZ w kl S->∃S',eZ w (A::kl') S'/\S.Perm S'
 |_,_,S,.here,h=>⟨S,h,.refl _⟩
 |_,_,_,.there s,⟨S1,S2,h1,h2,e⟩=>by
  obtain⟨S',⟨T1,T2,q1,q2,e'⟩,hp⟩:=eZ.fK s h2;subst e e';refine⟨T1++(S1++T2),⟨T1,_,q1,⟨S1,T2,h1,q2,rfl⟩,rfl⟩,?_⟩;have:(S1++S2).Perm (S1++(T1++T2)):=hp.append_left S1;refine this.trans ?_;rw[<- fE,<- fE];exact List.Perm.append_right T2 List.perm_append_comm
theorem eZ.jB{w:Wd}:∀{k kl kl':List OA} {S:List Nat},aH k kl kl'->eZ w kl S->∃S1 S2,eZ w k S1/\eZ w kl' S2/\S.Perm (S1++S2)
 |_,_,_,S,.nil,h=>⟨[],S,rfl,h,.refl _⟩
 |_,_,_,S,.cons s r,h=>by
  obtain⟨S',⟨T1,T2,q1,q2,e⟩,hp⟩:=h.fK s;obtain⟨U1,U2,u1,u2,hu⟩:=eZ.jB r q2;subst e;exact⟨T1++U1,U2,⟨T1,U1,q1,u1,rfl⟩,u2,hp.trans (by rw[fE];exact hu.append_left T1)⟩
inductive Sub{α:Type}:List α->List α->Prop
 |nil {l:List α}:Sub [] l
 |cons {a:α} {k l:List α} (h:a∈l) (h2:Sub k l):Sub (a::k) l
theorem Sub.mem{α:Type}:∀{k l:List α},Sub k l->∀x∈k,x∈l
 |_,_,.nil,x,hx=>by cases hx
 |_,_,.cons h h2,x,hx=>by
  cases hx with
  |head=>exact h
  |tail _ hx=>exact h2.mem x hx
structure XY(B:List Nat)(h h':IH):Prop where
 next:h.next<=h'.next
 get:∀i,i<h.next->i∉B->h'.get i=h.get i
 low:h.low<=h.next->(∀b∈B,h.low<=b)->h'.low=h.low
structure St(B:List Nat)(w0:Wd)(kl:List OA)(F:List aJ)(w:Wd):Prop where
 agree:XY B w0.h w.h
 le:w0.Le w
 fM:∀i,i<w0.h.next->w.z i->w0.z i\/i∈B
 own:∃S,eZ w kl S/\S.Nodup/\∀i∈S,(w0.h.next<=i\/i∈B)/\i<w.h.next/\¬w.z i
 facts:∀f∈F,f.p w
section
variable {B:List Nat} {w0 w:Wd} {kl:List OA} {F:List aJ}
theorem St.jB{k kl':List OA}(s:aH k kl kl')(h:St B w0 kl F w):St B w0 (k++kl') F w:=by
 obtain⟨S,h1,h2,h3⟩:=h.own;obtain⟨S1,S2,q1,q2,hp⟩:=h1.jB s;exact⟨h.agree,h.le,h.fM,⟨S1++S2,q1.app q2,hp.nodup h2,λi hi=>h3 i (hp.mem_iff.2 hi)⟩,h.facts⟩
theorem St.fK{A:OA}{kl':List OA}(s:ay A kl kl')(h:St B w0 kl F w):St B w0 (A::kl') F w:=h.jB (.cons s .nil)
theorem St.drop{k kl':List OA}(h:St B w0 (k++kl') F w):St B w0 k F w:=by
 obtain⟨S,h1,h2,h3⟩:=h.own;have:∀{k:List OA} {S:List Nat},eZ w (k++kl') S->∃S1 S2,eZ w k S1/\S=S1++S2:=by
  intro k;induction k with
  |nil=>intro S hS;exact⟨[],S,rfl,rfl⟩
  |cons A k ih=>
   rintro S ⟨T1,T2,q1,q2,e⟩;obtain⟨S1,S2,u1,u2⟩:=ih q2;exact⟨T1++S1,S2,⟨T1,S1,q1,u1,rfl⟩,by rw[e,u2,fE]⟩
 obtain⟨S1,S2,q1,e⟩:=this h1;subst e;exact⟨h.agree,h.le,h.fM,⟨S1,q1,(iA.1 h2).1,λi hi=>h3 i (kw _ hi)⟩,h.facts⟩
theorem St.sub{F':List aJ}(s:Sub F' F)(h:St B w0 kl F w):St B w0 kl F' w:=⟨h.agree,h.le,h.fM,h.own,λf hf=>h.facts f (s.mem f hf)⟩
theorem St.add{F':List aJ}(h:St B w0 kl F w)(hf:∀f∈F',f.p w):St B w0 kl (F'++F) w:=
 ⟨h.agree,h.le,h.fM,h.own,λf h1=>(dZ.1 h1).elim (hf f) (h.facts f)⟩
theorem St.get{b:Nat}{o:dz}(h:St B w0 (pt b o::kl) F w):w.h.get b=some o/\b<w.h.next/\(w0.h.next<=b\/b∈B):=by
 obtain⟨S,⟨S1,S2,⟨e1,q1⟩,_,e⟩,h2,h3⟩:=h.own;have hb:b∈S:=by rw[e,e1];simp
 exact⟨q1,(h3 b hb).2.1,(h3 b hb).1⟩
theorem St.at_{b:Nat}{o:dz}{kl':List OA}(s:ay (pt b o) kl kl')(h:St B w0 kl F w):At w.h b o:=⟨(h.fK s).get.2.1,(h.fK s).get.1⟩
noncomputable def Wd.new(w:Wd)(o:dz):Wd:=⟨w.h.new o,w.z,λi hi=>Ho (w.j4 i hi)⟩
theorem St.new(h:St B w0 kl F w)(o:dz):St B w0 (pt w.h.next o::kl) F (w.new o):=by
 have hg:∀i,i<w.h.next->(w.h.new o).get i=w.h.get i:=λi hi=>by rw[IH.iJ,if_neg (by omega)]
 have hle:w.Le (w.new o):=⟨xE _,λ_ h=>h,λi hi=>hg i (w.j4 i hi)⟩
 obtain⟨S,h1,h2,h3⟩:=h.own;refine⟨⟨Nat.le_succ_of_le h.agree.next,λi hi hb=>(hg i (kT hi h.agree.next)).trans (h.agree.get i hi hb),λa b=>h.agree.low a b⟩,h.le.trans hle,h.fM,
  ⟨[w.h.next]++S,⟨[w.h.next],S,⟨rfl,by show(w.h.new o).get _=_;rw[IH.iJ,if_pos rfl]⟩,eZ.loc hle (λi hi=>hg i (h3 i hi).2.1) h1,rfl⟩,?_,?_⟩,λf hf=>f.mono hle (h.facts f hf)⟩
 ·refine Bo.2 ⟨λhm=>?_,h2⟩;have:=(h3 _ hm).2.1;omega
 ·intro i hi;rcases dZ.1 hi with hi|hi
  ·rw[bG.1 hi];exact⟨.inl h.agree.next,tZ _,λhz=>absurd (w.j4 _ hz) (Nat.lt_irrefl _)⟩
  ·exact⟨(h3 i hi).1,Ho (h3 i hi).2.1,(h3 i hi).2.2⟩
theorem St.write{b:Nat}{o o':dz}(h:St B w0 (pt b o::kl) F w):St B w0 (pt b o'::kl) F ⟨w.h.set b o',w.z,λi hi=>w.j4 i hi⟩:=by
 obtain⟨S,⟨S1,S2,⟨e1,q1⟩,q2,e⟩,h2,h3⟩:=h.own;subst e e1;have hb:=h3 b (by simp);have hn:b∉S2:=λhm=>(Bo.1 h2).1 hm;have hg:∀i,i≠b->(w.h.set b o').get i=w.h.get i:=λi hi=>by rw[IH.lN,if_neg hi]
 have hle:w.Le ⟨w.h.set b o',w.z,λi hi=>w.j4 i hi⟩:=⟨bI _,λ_ h=>h,λi hi=>hg i (λe=>hb.2.2 (e▸hi))⟩
 refine⟨⟨h.agree.next,λi hi hB=>(hg i ?_).trans (h.agree.get i hi hB),λa c=>?_⟩,h.le.trans hle,h.fM,
  ⟨[b]++S2,⟨[b],S2,⟨rfl,by show(w.h.set b o').get b=_;rw[IH.lN,if_pos rfl]⟩,eZ.loc hle (λi hi=>hg i (λe=>hn (e▸hi))) q2,rfl⟩,h2,h3⟩,λf hf=>f.mono hle (h.facts f hf)⟩
 ·rcases hb.1 with q|q
  ·omega
  ·intro e;exact hB (e▸q)
 ·have hl:=h.agree.low a c;show(w.h.set b o').low=_;rw[IH.ES,hl];rcases hb.1 with q|q
  ·omega
  ·have:=c b q;omega
theorem St.move{b:Nat}{o o':dz}{h':IH}(h:St B w0 (pt b o::kl) F w)(m:yz w.h h' b o'):∃w':Wd,w'.h=h'/\St B w0 (pt w.h.next o'::kl) F w'/\w.Le w':=by
 obtain⟨S,⟨S1,S2,⟨e1,q1⟩,q2,e⟩,h2,h3⟩:=h.own;subst e e1;have hb:=h3 b (by simp);have hn:b∉S2:=λhm=>(Bo.1 h2).1 hm;let w':Wd:=⟨h',w.z,λi hi=>by rw[m.next];exact Ho (w.j4 i hi)⟩
 have hle:w.Le w':=⟨by show _<=h'.next;rw[m.next];exact xE _,λ_ h=>h,λi hi=>m.get i (w.j4 i hi) (λe=>hb.2.2 (e▸hi))⟩
 refine⟨w',rfl,⟨⟨by show _<=h'.next;rw[m.next];exact Nat.le_succ_of_le h.agree.next,λi hi hB=>(m.get i (kT hi h.agree.next) ?_).trans (h.agree.get i hi hB),λa c=>?_⟩,h.le.trans hle,h.fM,
  ⟨[w.h.next]++S2,⟨[w.h.next],S2,⟨rfl,m.at_.2⟩,eZ.loc hle (λi hi=>m.get i (h3 i (by simp[hi])).2.1 (λe=>hn (e▸hi))) q2,rfl⟩,?_,?_⟩,λf hf=>f.mono hle (h.facts f hf)⟩,hle⟩
 ·rcases hb.1 with q|q
  ·omega
  ·intro e;exact hB (e▸q)
 ·have hl:=h.agree.low a c;rw[<- hl];refine m.low ?_;rw[hl];rcases hb.1 with q|q
  ·omega
  ·exact c b q
 ·refine Bo.2 ⟨λhm=>?_,(Bo.1 h2).2⟩;have:=(h3 _ (dA _ hm)).2.1;omega
 ·intro i hi;have hnx:w'.h.next=w.h.next+1:=m.next
  rcases dZ.1 hi with hi|hi
  ·rw[bG.1 hi];exact⟨.inl h.agree.next,by omega,λhz=>absurd (w.j4 _ hz) (Nat.lt_irrefl _)⟩
  ·have:=h3 i (by simp[hi]);exact⟨this.1,by omega,this.2.2⟩
theorem St.Aa{A A':OA}(hA:∀w S,A.p w S->A'.p w S)(h:St B w0 (A::kl) F w):St B w0 (A'::kl) F w:=by
 obtain⟨S,⟨S1,S2,q1,q2,e⟩,h2,h3⟩:=h.own;exact⟨h.agree,h.le,h.fM,⟨S,⟨S1,S2,hA w S1 q1,q2,e⟩,h2,h3⟩,h.facts⟩
theorem St.wL{A A':OA}(h:St B w0 (A::kl) F w)(hA:∀S,A.p w S->A'.p w S):St B w0 (A'::kl) F w:=by
 obtain⟨S,⟨S1,S2,q1,q2,e⟩,h2,h3⟩:=h.own;exact⟨h.agree,h.le,h.fM,⟨S,⟨S1,S2,hA S1 q1,q2,e⟩,h2,h3⟩,h.facts⟩
theorem St.tail{A:OA}(h:St B w0 (A::kl) F w):St B w0 kl F w:=by
 obtain⟨S,⟨S1,S2,q1,q2,e⟩,h2,h3⟩:=h.own;subst e;exact⟨h.agree,h.le,h.fM,⟨S2,q2,(iA.1 h2).2.1,λi hi=>h3 i (ni _ hi)⟩,h.facts⟩
def qN(A:OA)(fs:List aJ):Prop:=∀(w w':Wd) S,A.p w S->w.Le w'->w'.h=w.h->(∀i∈S,w'.z i)->∀f∈fs,f.p w'
theorem St.freeze{A:OA}{fs:List aJ}(hA:qN A fs)(h:St B w0 (A::kl) F w):∃w',w'.h=w.h/\St B w0 kl (fs++F) w':=by
 obtain⟨S,⟨S1,S2,q1,q2,e⟩,h2,h3⟩:=h.own;subst e;let w':Wd:=⟨w.h,λi=>w.z i\/i∈S1,λi hi=>hi.elim (w.j4 i) λhi=>(h3 i (kw _ hi)).2.1⟩
 have hle:w.Le w':=⟨bI _,λi hi=>.inl hi,λ_ _=>rfl⟩
 have hnd:=iA.1 h2;refine⟨w',rfl,h.agree,h.le.trans hle,λi hi hz=>?_,⟨S2,eZ.loc hle (λ_ _=>rfl) q2,hnd.2.1,λi hi=>?_⟩,λf hf=>?_⟩
 ·rcases hz with hz|hz
  ·exact h.fM i hi hz
  ·rcases(h3 i (kw _ hz)).1 with q|q
   ·omega
   ·exact .inr q
 ·have:=h3 i (ni _ hi);refine⟨this.1,this.2.1,λhz=>hz.elim this.2.2 λhm=>?_⟩;exact hnd.2.2 i hm i hi rfl
 ·rcases dZ.1 hf with hf|hf
  ·exact hA w w' S1 q1 hle rfl (λi hi=>.inr hi) f hf
  ·exact f.mono hle (h.facts f hf)
theorem gp{α:Type}{E:Enc α}{v:Value}{xs:List α}:qN (ap E v xs) [ah E v xs]:=by
 intro w w' S hp hle hh hz f hf;rw[bG.1 hf];rcases hp with⟨h1,h2,_⟩|⟨b,o,f,cells,h1,h2,h3,h4,h5,h6⟩
 ·exact .inl ⟨h1,none,0,h2,trivial⟩
 ·refine .inr ⟨b,o,f,_,cells,⟨h1,bI _,h2⟩,⟨hz b (by rw[h3];exact bG.2 rfl),.inl (by rw[hh];exact h4)⟩,λk x hk=>?_⟩;obtain⟨y,q1,q2⟩:=h6 k x hk;exact⟨y,q1,λf hf=>f.mono hle (q2 f hf)⟩
theorem fG{b:Nat}{cs:List Value}:qN (pt b (.cells cs)) [gH b 0 cs]:=by
 intro w w' S ⟨h1,h2⟩ hle hh hz f hf;rw[bG.1 hf];exact⟨cs,⟨hz b (by rw[h1];exact bG.2 rfl),.inl (by rw[hh];exact h2)⟩,λj u hj=>by rw[eH];exact hj⟩
theorem yF{b f c:Nat}{xs:List Int}(hc:xs.length<=c:=by first|exact bI _|omega)(hf:f=0\/f=1:=by first|exact .inl rfl|exact .inr rfl):qN (pt b (.cells (xs.map (.int .i64)))) [ah ae (.slice (some ⟨b,0,some f⟩) xs.length c) xs]:=by
 intro w w' S ⟨h1,h2⟩ hle hh hz g hg;rw[bG.1 hg];refine .inr ⟨b,0,f,c,_,⟨rfl,hc,hf⟩,⟨hz b (by rw[h1];exact bG.2 rfl),.inl (by rw[hh];exact h2)⟩,λk x hk=>⟨(),λj u hj=>?_,λf hf=>by cases hf⟩⟩;match j,hj with
 |0,hj=>
  cases hj;simp[ae,hk]
end
end Go.Ideal
namespace Go.Ideal
variable {P:Program}
def R(Q:IH->Prop)(B:List Nat)(w0:Wd)(kl:List OA)(F:List aJ):Prop:=∀w,St B w0 kl F w->Q w.h
structure dB(G G':Prop):Prop where
 h:G'->G
theorem dB.refl(G:Prop):dB G G:=⟨id⟩
theorem dB.trans{A B C:Prop}(a:dB A B)(b:dB B C):dB A C:=⟨λc=>a.h (b.h c)⟩
theorem dB.all{X:Type}{A B:X->Prop}(h:∀x,dB (A x) (B x)):dB (∀x,A x) (∀x,B x):=⟨λb x=>(h x).h (b x)⟩
theorem dB.imp{p A B:Prop}(h:dB A B):dB (p->A) (p->B):=⟨λb x=>h.h (b x)⟩
def Pu(P:Program)(ρ:Operand->Value)(op:aA)(v:Value):Prop:=∀h,op.run P ρ h=some (v,h)
inductive EvL(ρ:Operand->Value):List Operand->List Value->Prop
 |nil:EvL ρ [] []
 |cons {x:Operand} {v:Value} {xs:List Operand} {vs:List Value} (h:ρ x=v) (t:EvL ρ xs vs):EvL ρ (x::xs) (v::vs)
theorem EvL.map{ρ:Operand->Value}:∀{xs:List Operand} {vs:List Value},EvL ρ xs vs->xs.map ρ=vs
 |_,_,.nil=>rfl
 |_,_,.cons h t=>by rw[gY,h,t.map]
section
variable {ρ:Operand->Value}
theorem CB{x:Operand}{v:Value}(hx:ρ x=v):Pu P ρ (.mv x) v:=λh=>by simp only[aA.run,hx]
theorem CE{x:Operand}{v:Value}(hx:ρ x=v):Pu P ρ (.iM x) v:=λh=>by simp only[aA.run,hx]
theorem CF{c x y:Operand}{v:Value}(hc:ρ c=.bool true)(hx:ρ x=v):Pu P ρ (.pick c x y) v:=λh=>by simp only[aA.run,hc,hx,cond]
theorem CG{c x y:Operand}{v:Value}(hc:ρ c=.bool false)(hx:ρ y=v):Pu P ρ (.pick c x y) v:=λh=>by simp only[aA.run,hc,hx,cond]
theorem CJ{x:Operand}{b:Bool}(hx:ρ x=.bool b):Pu P ρ (.un .not x) (.bool !b):=λh=>by simp only[aA.run,hx];rfl
theorem CK{x:Operand}{a:Option Addr}{m c:Nat}(hx:ρ x=.slice a m c):Pu P ρ (.oC x) (.int .i64 (m:Int)):=λh=>by simp only[aA.run,hx,Ox]
theorem CL{n:Nat}:Pu P ρ (.EK n) (.int .i64 (n:Int)):=λh=>rfl
theorem CO{x y:Operand}{t:TypeId}{a b:Int}(hx:ρ x=.int .i64 a)(hy:ρ y=.int .i64 b):Pu P ρ (.bin .lss t x y) (.bool (decide (a<b))):=λh=>by
 simp only[aA.run,hx,hy];rw[wH (v:=.bool (decide (a<b)))];simp[nK,qF,<- Int.not_le]
theorem CP{x y:Operand}{t:TypeId}{a b:Int}(hx:ρ x=.int .i64 a)(hy:ρ y=.int .i64 b):Pu P ρ (.bin .leq t x y) (.bool (decide (a<=b))):=λh=>by
 simp only[aA.run,hx,hy];rw[wH (v:=.bool (decide (a<=b)))];simp[nK,qF]
theorem CQ{x y:Operand}{t:TypeId}{a b:Int}(hx:ρ x=.int .i64 a)(hy:ρ y=.int .i64 b):Pu P ρ (.bin .gtr t x y) (.bool (decide (b<a))):=λh=>by
 simp only[aA.run,hx,hy];rw[wH (v:=.bool (decide (b<a)))];simp[nK,qF,<- Int.not_le]
theorem CR{x y:Operand}{t:TypeId}{a b:Int}(hx:ρ x=.int .i64 a)(hy:ρ y=.int .i64 b):Pu P ρ (.bin .geq t x y) (.bool (decide (b<=a))):=λh=>by
 simp only[aA.run,hx,hy];rw[wH (v:=.bool (decide (b<=a)))];simp[nK,qF]
theorem CS{x y:Operand}{t:TypeId}{a b:Int}(hx:ρ x=.int .i64 a)(hy:ρ y=.int .i64 b):Pu P ρ (.bin .eql t x y) (.bool (decide (a=b))):=λh=>by
 simp only[aA.run,hx,hy];rw[wH (v:=.bool (decide (a=b)))];simp[nK,BS];rfl
theorem CU{x y:Operand}{t:TypeId}{a b:Int}(hx:ρ x=.int .i64 a)(hy:ρ y=.int .i64 b):Pu P ρ (.bin .neq t x y) (.bool (decide (a≠b))):=λh=>by
 simp only[aA.run,hx,hy];rw[wH (v:=.bool (decide (a≠b)))];simp[nK,BS];rfl
theorem yG{x y:Operand}{t:TypeId}{a b:Int}(hx:ρ x=.int .i64 a)(hy:ρ y=.int .i64 b)(h1: -9223372036854775808<=a+b)(h2:a+b<9223372036854775808):Pu P ρ (.bin .add t x y) (.int .i64 (a+b)):=λh=>by
 simp only[aA.run,hx,hy];rw[wH (v:=.int .i64 (a+b))];simp only[nK,Nf,Oz h1 h2]
theorem CW{x y:Operand}{t:TypeId}{a b:Int}(hx:ρ x=.int .i64 a)(hy:ρ y=.int .i64 b)(h1: -9223372036854775808<=a - b)(h2:a - b<9223372036854775808):Pu P ρ (.bin .sub t x y) (.int .i64 (a - b)):=λh=>by
 simp only[aA.run,hx,hy];rw[wH (v:=.int .i64 (a - b))];simp only[nK,Ng,Oz h1 h2]
theorem CY{x:Operand}{i:Nat}{vs:List Value}{v:Value}(hx:ρ x=.tuple ⟨vs⟩)(hv:jy vs i=some v):Pu P ρ (.extract x i) v:=λh=>by simp only[aA.run,hx,hv]
theorem CZ{x:Operand}{off b o:Nat}(hx:ρ x=.pointer (some ⟨b,o,none⟩)):Pu P ρ (.fA off x) (.pointer (some ⟨b,o+off,none⟩)):=λh=>by simp only[aA.run,hx];rfl
theorem C8{t:TypeId}{off n:Nat}{x:Operand}{cs:List Value}{v:Value}(hx:ρ x=.agg ⟨cs⟩)(hv:jy cs off=some v):Pu P ρ (.field t off n false x) v:=λh=>by simp only[aA.run,hx,hv]
theorem C9{t:TypeId}{off n:Nat}{x:Operand}{cs r:List Value}(hx:ρ x=.agg ⟨cs⟩)(hv:iQ (jm cs off) n=some r):Pu P ρ (.field t off n true x) (.agg ⟨r⟩):=λh=>by simp only[aA.run,hx,hv]
theorem Da{x:Operand}{t:TypeId}{v:Value}(hx:ρ x=v):Pu P ρ (.iface t x) (.iface t v):=λh=>by simp only[aA.run,hx]
theorem Db{t:TypeId}{zero v:Value}{x:Operand}(hx:ρ x=.iface t v):Pu P ρ (.EJ t zero false x) v:=λh=>by
 simp only[aA.run,hx];show cond (Nat.beq t t) _ _=_;rw[zq];rfl
theorem XZ{zero cs:List Value}{parts:List (Nat×Nat×Operand)}(hx:pG ρ zero parts=some cs):Pu P ρ (.build zero parts) (.agg ⟨cs⟩):=λh=>by simp only[aA.run,hx]
theorem Dc{x:Operand}{a:Addr}(hx:ρ x=.pointer (some a)):Pu P ρ (.jW x) (.pointer (some a)):=λh=>by simp only[aA.run,hx]
theorem De{x:Operand}{f:FuncId}{a b:Array Value}(hx:ρ x=.func (.func f) a b):Pu P ρ (.jW x) (.func (.func f) a b):=λh=>by simp only[aA.run,hx]
theorem X0{fn:Fn}{first captured:List Operand}{a b:List Value}(h1:EvL ρ first a)(h2:EvL ρ captured b):Pu P ρ (.zz fn first captured) (.func fn ⟨a⟩ ⟨b⟩):=λh=>by
 simp only[aA.run,rU,h1.map,h2.map]
theorem Ab{x i:Operand}{size b o m c:Nat}{f:Option Nat}{k:Int}{kk:IntKind}(hx:ρ x=.slice (some ⟨b,o,f⟩) m c)(hi:ρ i=.int kk k)(h0:0<=k)(h1:k<m):
 Pu P ρ (.kV size x i) (.pointer (some ⟨b,o+k.toNat*size,none⟩)):=λh=>by
 obtain⟨j,rfl⟩:=qy h0;simp only[aA.run,hx,hi];show cond (Nat.blt j m) _ _=_;rw[Jz (by omega)];rfl
theorem Df{x i:Operand}{size b o m c k:Nat}{f:Option Nat}{kk:IntKind}(hx:ρ x=.slice (some ⟨b,o,f⟩) m c)(hi:ρ i=.int kk (.ofNat k))(h1:Nat.blt k m=true):
 Pu P ρ (.kV size x i) (.pointer (some ⟨b,o+k*size,none⟩)):=λh=>by
 simp only[aA.run,hx,hi,h1];rfl
theorem Dg{x i:Operand}{m size b o:Nat}{k:Int}{kk:IntKind}(hx:ρ x=.pointer (some ⟨b,o,none⟩))(hi:ρ i=.int kk k)(h0:0<=k)(h1:k<m):
 Pu P ρ (.HV m size x i) (.pointer (some ⟨b,o+k.toNat*size,none⟩)):=λh=>by
 obtain⟨j,rfl⟩:=qy h0;simp only[aA.run,hx,hi];show cond (Nat.blt j m) _ _=_;rw[Jz (by omega)];rfl
end
section
variable {B:List Nat} {w0:Wd} {kl kl':List OA} {F:List aJ} {a:aU} {K:KO}
theorem X3{x y:dm}:dB (R (λh=>EV P (.seq x y) a h K) B w0 kl F) (R (λh=>EV P x a h (wG P y K)) B w0 kl F):=⟨λr w s=>Xw (r w s)⟩
theorem X4{id:Nat}{c:dm}:dB (R (λh=>EV P (.block id c) a h K) B w0 kl F) (R (λh=>EV P c a h (uN id K)) B w0 kl F):=⟨λr w s=>Xx (r w s)⟩
theorem X5{ds:List Tmp}{l:List bO}:dB (R (λh=>EV P (.ops ds l) a h K) B w0 kl F) (R (λh=>aD P ds l a h K) B w0 kl F):=⟨λr w s=>.ops (r w s)⟩
theorem X6{c:dm}:dB (R (λh=>EV P (.scope c) a h K) B w0 kl F) (R (λh=>EV P c a h K) B w0 kl F):=⟨λr w s=>.scope (r w s)⟩
theorem X7:dB (R (λh=>EV P .skip a h K) B w0 kl F) (R (λh=>K .normal a h) B w0 kl F):=⟨λr w s=>.skip (r w s)⟩
theorem X8{id:Nat}:dB (R (λh=>EV P (.exit id) a h K) B w0 kl F) (R (λh=>K (.exit id) a h) B w0 kl F):=⟨λr w s=>.exit (r w s)⟩
theorem X9:dB (R (λh=>EV P .ret a h K) B w0 kl F) (R (λh=>K .ret a h) B w0 kl F):=⟨λr w s=>.ret (r w s)⟩
theorem Ya{ds:List Tmp}:dB (R (λh=>aD P ds [] a h K) B w0 kl F) (R (λh=>K .normal a h) B w0 kl F):=⟨λr w s=>.nil (r w s)⟩
variable {y:dm} {i j m0:Nat} {I:Nat->aU->IH->Prop} {ch:List PanicEntry}
theorem Yb:dB (R (λh=>wG P y K .normal a h) B w0 kl F) (R (λh=>EV P y a h K) B w0 kl F):=⟨λr w s=>r w s⟩
theorem Yc:dB (R (λh=>wG P y K .ret a h) B w0 kl F) (R (λh=>K .ret a h) B w0 kl F):=⟨λr w s=>r w s⟩
theorem Yd:dB (R (λh=>wG P y K (.exit j) a h) B w0 kl F) (R (λh=>K (.exit j) a h) B w0 kl F):=⟨λr w s=>r w s⟩
theorem Ye:dB (R (λh=>wG P y K (.panic ch) a h) B w0 kl F) (R (λh=>K (.panic ch) a h) B w0 kl F):=⟨λr w s=>r w s⟩
theorem Yf:dB (R (λh=>uN i K .normal a h) B w0 kl F) (R (λh=>K .normal a h) B w0 kl F):=⟨λr w s=>r w s⟩
theorem Yg:dB (R (λh=>uN i K .ret a h) B w0 kl F) (R (λh=>K .ret a h) B w0 kl F):=⟨λr w s=>r w s⟩
theorem Yh:dB (R (λh=>uN i K (.panic ch) a h) B w0 kl F) (R (λh=>K (.panic ch) a h) B w0 kl F):=⟨λr w s=>r w s⟩
theorem Yi(e:Nat.beq j i=true):dB (R (λh=>uN i K (.exit j) a h) B w0 kl F) (R (λh=>K .normal a h) B w0 kl F):=⟨λr w s=>XF e (r w s)⟩
theorem Yj(e:Nat.beq j i=false):dB (R (λh=>uN i K (.exit j) a h) B w0 kl F) (R (λh=>K (.exit j) a h) B w0 kl F):=⟨λr w s=>XG e (r w s)⟩
theorem Yk:dB (R (λh=>uO I m0 K .ret a h) B w0 kl F) (R (λh=>K .ret a h) B w0 kl F):=⟨λr w s=>r w s⟩
theorem Yl:dB (R (λh=>uO I m0 K (.exit j) a h) B w0 kl F) (R (λh=>K (.exit j) a h) B w0 kl F):=⟨λr w s=>r w s⟩
theorem Ym:dB (R (λh=>uO I m0 K (.panic ch) a h) B w0 kl F) (R (λh=>K (.panic ch) a h) B w0 kl F):=⟨λr w s=>r w s⟩
end
section
variable {B:List Nat} {w0:Wd} {kl kl':List OA} {F:List aJ} {K:KO} {ds:List Tmp} {rest:List bO} {n:Nat} {l:List (Nat×Value)} {D:List Deferred} {pm:Option FrameMode} {ro:Option Nat} {d:Nat} {g:Option (Tmp×Bool)}
theorem Yn{c:Operand}{x y:dm}(hc:ev l c=.bool true):dB (R (λh=>EV P (.cond c x y) (act n l D pm ro) h K) B w0 kl F) (R (λh=>EV P x (act n l D pm ro) h K) B w0 kl F):=
 ⟨λr w s=>Cw true hc (λ_=>r w s) (λe=>by cases e)⟩
theorem Yo{c:Operand}{x y:dm}(hc:ev l c=.bool false):dB (R (λh=>EV P (.cond c x y) (act n l D pm ro) h K) B w0 kl F) (R (λh=>EV P y (act n l D pm ro) h K) B w0 kl F):=
 ⟨λr w s=>Cw false hc (λe=>by cases e) (λ_=>r w s)⟩
theorem az{c:Operand}{x y:dm}{p:Prop}[Decidable p](hc:ev l c=.bool (decide p))(h1:p->R (λh=>EV P x (act n l D pm ro) h K) B w0 kl F)(h2:¬p->R (λh=>EV P y (act n l D pm ro) h K) B w0 kl F):
 R (λh=>EV P (.cond c x y) (act n l D pm ro) h K) B w0 kl F:=
 λw s=>Cw _ hc (λe=>h1 (iB e) w s) (λe=>h2 (lY e) w s)
theorem ed{c:Operand}{x y:dm}{p:Prop}[Decidable p](hc:ev l c=.bool (!decide p))(h1:¬p->R (λh=>EV P x (act n l D pm ro) h K) B w0 kl F)(h2:p->R (λh=>EV P y (act n l D pm ro) h K) B w0 kl F):
 R (λh=>EV P (.cond c x y) (act n l D pm ro) h K) B w0 kl F:=
 λw s=>Cw _ hc (λe=>h1 (by simpa using e) w s) (λe=>h2 (by simpa using e) w s)
theorem jJ{c:Operand}{x y:dm}{b:Bool}(hc:ev l c=.bool b)(h1:b=true->R (λh=>EV P x (act n l D pm ro) h K) B w0 kl F)(h2:b=false->R (λh=>EV P y (act n l D pm ro) h K) B w0 kl F):
 R (λh=>EV P (.cond c x y) (act n l D pm ro) h K) B w0 kl F:=
 λw s=>Cw _ hc (λe=>h1 e w s) (λe=>h2 e w s)
theorem Yp{op:aA}{re:List gI}(hn:Nat.blt d n=true)(hg:Jw l g=true):dB (R (λh=>aD P ds (⟨⟨some d,g,op⟩,re⟩::rest) (act n l D pm ro) h K) B w0 kl F) (R (λh=>aD P ds rest (act n ((d,qz)::l) D pm ro) h K) B w0 kl F):=
 ⟨λr w s=>XD hn hg (r w s)⟩
theorem fq{op:aA}{v:Value}(hn:Nat.blt d n=true)(hg:bS l g=true)(hp:Pu P (ev l) op v):dB (R (λh=>aD P ds (⟨⟨some d,g,op⟩,[]⟩::rest) (act n l D pm ro) h K) B w0 kl F) (R (λh=>aD P ds rest (act n ((d,v)::l) D pm ro) h K) B w0 kl F):=
 ⟨λr w s=>jH hn hg (hp w.h) (r w s)⟩
abbrev ptr'(b:Nat):Value:=.pointer (some ⟨b,0,none⟩)
theorem Yq{cs:List Value}{t:TypeId}(hn:Nat.blt d n=true)(hg:bS l g=true):dB (R (λh=>aD P ds (⟨⟨some d,g,.new cs t⟩,[]⟩::rest) (act n l D pm ro) h K) B w0 kl F)
 (∀b,R (λh=>aD P ds rest (act n ((d,.pointer (some ⟨b,0,none⟩))::l) D pm ro) h K) B w0 (pt b (.cells cs)::kl) F):=
 ⟨λr w s=>jH hn hg (h':=w.h.new (.cells cs)) (by simp only[aA.run,aA.alloc,pI]) (r w.h.next (w.new _) (s.new _))⟩
theorem Yr{x:Operand}{t:TypeId}{cs:List Value}(hn:Nat.blt d n=true)(hg:bS l g=true)(hx:cellsOf (ev l x)=some cs):dB (R (λh=>aD P ds (⟨⟨some d,g,.box x t⟩,[]⟩::rest) (act n l D pm ro) h K) B w0 kl F)
 (∀b,R (λh=>aD P ds rest (act n ((d,.pointer (some ⟨b,0,none⟩))::l) D pm ro) h K) B w0 (pt b (.cells cs)::kl) F):=
 ⟨λr w s=>jH hn hg (h':=w.h.new (.cells cs)) (by simp only[aA.run,aA.alloc,pI,hx]) (r w.h.next (w.new _) (s.new _))⟩
theorem Yt{t:TypeId}{len:Nat}{zero cs:List Value}{parts:List (Nat×Nat×Operand)}(hn:Nat.blt d n=true)(hg:bS l g=true)(hx:pG (ev l) zero parts=some cs):
 dB (R (λh=>aD P ds (⟨⟨some d,g,.uo t len zero parts⟩,[]⟩::rest) (act n l D pm ro) h K) B w0 kl F)
 (∀b,R (λh=>aD P ds rest (act n ((d,.slice (some ⟨b,0,some 0⟩) len len)::l) D pm ro) h K) B w0 (pt b (.cells cs)::kl) F):=
 ⟨λr w s=>jH hn hg (h':=w.h.new (.cells cs)) (by simp only[aA.run,aA.alloc,pI,hx,uw]) (r w.h.next (w.new _) (s.new _))⟩
theorem Yu{e:TypeId}{size bytes m:Nat}{zero:List Value}{x y:Operand}(hn:Nat.blt d n=true)(hg:bS l g=true)(hx:ev l x=.int .i64 (m:Int))(hy:ev l y=.int .i64 (m:Int))
 (hm:m*bytes<=1073741824/\m*size<=1073741824/\m<=1073741824):dB (R (λh=>aD P ds (⟨⟨some d,g,.xO e size bytes zero x y⟩,[]⟩::rest) (act n l D pm ro) h K) B w0 kl F)
 (∀b,R (λh=>aD P ds rest (act n ((d,.slice (some ⟨b,0,some 0⟩) m m)::l) D pm ro) h K) B w0 (pt b (.cells (zeros zero m))::kl) F):=by
 refine⟨λr w s=>?_⟩;have hle:∀{a b:Nat},a<=b->Nat.ble a b=true:=λh=>by rw[ou];exact h
 refine jH hn hg (h':=w.h.new (.cells (zeros zero m))) ?_ (r w.h.next (w.new _) (s.new _));simp only[aA.run,aA.alloc,hx,hy];show pI (cond (Nat.ble m m&&Nat.ble (m*bytes) small&&Nat.ble (m*size) small&&Nat.ble m small) _ _) w.h=_;rw[hle (bI m),hle (show m*bytes<=small from hm.1),hle (show m*size<=small from hm.2.1),hle (show m<=small from hm.2.2)];rfl
theorem Yv{x:Operand}{b o:Nat}{cs:List Value}{v:Value}(hn:Nat.blt d n=true)(hg:bS l g=true)(hx:ev l x=.pointer (some ⟨b,o,none⟩))(hk:ay (pt b (.cells cs)) kl kl')(hv:jy cs o=some v):
 dB (R (λh=>aD P ds (⟨⟨some d,g,.fT x⟩,[]⟩::rest) (act n l D pm ro) h K) B w0 kl F) (R (λh=>aD P ds rest (act n ((d,v)::l) D pm ro) h K) B w0 kl F):=
 ⟨λr w s=>Fy hn hg hx (s.at_ hk) (by rw[<- qD];exact hv) (r w s)⟩
theorem Yw{x:Operand}{b o m:Nat}{cs c:List Value}(hn:Nat.blt d n=true)(hg:bS l g=true)(hx:ev l x=.pointer (some ⟨b,o,none⟩))(hk:ay (pt b (.cells cs)) kl kl')(hv:iQ (jm cs o) m=some c):
 dB (R (λh=>aD P ds (⟨⟨some d,g,.oz m x⟩,[]⟩::rest) (act n l D pm ro) h K) B w0 kl F) (R (λh=>aD P ds rest (act n ((d,.agg ⟨c⟩)::l) D pm ro) h K) B w0 kl F):=
 ⟨λr w s=>XE hn hg hx (s.at_ hk) hv (r w s)⟩
theorem FI{w:Wd}{b o j:Nat}{cs:List Value}{v:Value}(h:(gH b o cs).p w)(hv:jy cs j=some v):w.h.mH b (o+j)=some v:=by
 obtain⟨cells,h1,h2⟩:=h;rw[h1.cells.mH];exact h2 j v (by rw[<- qD];exact hv)
theorem FJ{w:Wd}{b o j m:Nat}{cs c:List Value}(h:(gH b o cs).p w)(hv:iQ (jm cs j) m=some c):w.h.gG b (o+j) m=some c:=by
 obtain⟨cells,h1,h2⟩:=h;rw[h1.cells.gG];rw[l7,l6]at hv⊢;split at hv
 ·rename_i hm;cases hv;rw[lX]at hm;have key:∀i,i<m->cells[o+j+i]? =cs[j+i]?:=λi hi=>by
   have hlt:j+i<cs.length:=by omega
   rw[ng,cK hlt];exact h2 (j+i) _ (cK hlt)
  have hlen:m=0\/o+j+m<=cells.length:=by
   rcases Bj m with e|e
   ·exact .inl e
   ·right;have:=key (m - 1) (by omega);rw[cK (show j+(m - 1)<cs.length by omega)]at this;have:=(bT.1 this).1;omega
  rw[if_pos (by rw[lX];omega)];congr 1;apply jw;intro i;rw[qw,qw];by_cases hi:i<m
  ·rw[if_pos hi,if_pos hi,mY,mY];exact key i hi
  ·rw[if_neg hi,if_neg hi]
 ·cases hv
theorem Yx{x:Operand}{b o:Nat}{cs:List Value}{v:Value}(hn:Nat.blt d n=true)(hg:bS l g=true)(hx:ev l x=.pointer (some ⟨b,o,none⟩))(hk:gH b o cs∈F)(hv:jy cs 0=some v):
 dB (R (λh=>aD P ds (⟨⟨some d,g,.fT x⟩,[]⟩::rest) (act n l D pm ro) h K) B w0 kl F) (R (λh=>aD P ds rest (act n ((d,v)::l) D pm ro) h K) B w0 kl F):=
 ⟨λr w s=>jH hn hg (by simp only[aA.run,hx,show w.h.mH b o=some v from FI (j:=0) (s.facts _ hk) hv]) (r w s)⟩
theorem Yy{x:Operand}{b o j:Nat}{cs:List Value}{v:Value}(hn:Nat.blt d n=true)(hg:bS l g=true)(hx:ev l x=.pointer (some ⟨b,o+j,none⟩))(hk:gH b o cs∈F)(hv:jy cs j=some v):
 dB (R (λh=>aD P ds (⟨⟨some d,g,.fT x⟩,[]⟩::rest) (act n l D pm ro) h K) B w0 kl F) (R (λh=>aD P ds rest (act n ((d,v)::l) D pm ro) h K) B w0 kl F):=
 ⟨λr w s=>jH hn hg (by simp only[aA.run,hx,FI (s.facts _ hk) hv]) (r w s)⟩
theorem Yz{x:Operand}{b o m:Nat}{cs c:List Value}(hn:Nat.blt d n=true)(hg:bS l g=true)(hx:ev l x=.pointer (some ⟨b,o,none⟩))(hk:gH b o cs∈F)(hv:iQ cs m=some c):
 dB (R (λh=>aD P ds (⟨⟨some d,g,.oz m x⟩,[]⟩::rest) (act n l D pm ro) h K) B w0 kl F) (R (λh=>aD P ds rest (act n ((d,.agg ⟨c⟩)::l) D pm ro) h K) B w0 kl F):=
 ⟨λr w s=>jH hn hg (by simp only[aA.run,hx,show w.h.gG b o m=some c from FJ (j:=0) (s.facts _ hk) (by rw[l6];exact hv)]) (r w s)⟩
theorem OY{x:Operand}{b o j m:Nat}{cs c:List Value}(hn:Nat.blt d n=true)(hg:bS l g=true)(hx:ev l x=.pointer (some ⟨b,o+j,none⟩))(hk:gH b o cs∈F)(hv:iQ (jm cs j) m=some c):
 dB (R (λh=>aD P ds (⟨⟨some d,g,.oz m x⟩,[]⟩::rest) (act n l D pm ro) h K) B w0 kl F) (R (λh=>aD P ds rest (act n ((d,.agg ⟨c⟩)::l) D pm ro) h K) B w0 kl F):=
 ⟨λr w s=>jH hn hg (by simp only[aA.run,hx,FJ (s.facts _ hk) hv]) (r w s)⟩
theorem YA{x y:Operand}{b o m:Nat}{cs vs c:List Value}(hg:bS l g=true)(hx:ev l x=.pointer (some ⟨b,o,none⟩))(hy:cellsOf (ev l y)=some vs)(hm:Nat.beq (ig vs) m=true)
 (hk:ay (pt b (.cells cs)) kl kl') (hv:iL cs o vs=some c):
 dB (R (λh=>aD P ds (⟨⟨none,g,.store m x y⟩,[]⟩::rest) (act n l D pm ro) h K) B w0 kl F) (R (λh=>aD P ds rest (act n l D pm ro) h K) B w0 (pt b (.cells c)::kl') F):=
 ⟨λr w s=>Jy hg (v:=dG) (h':=w.h.set b (.cells c)) (by simp only[aA.run,hx,hy,hm];simp only[IH.storeAt,(s.at_ hk).2,hv];rfl) (r _ ((s.fK hk).write))⟩
theorem YB{x y:Operand}{b o:Nat}{cs:List Value}{v:Value}(hg:bS l g=true)(hx:ev l x=.pointer (some ⟨b,o,none⟩))(hy:ev l y=v)(hv:cellsOf v=some [v])
 (hk:ay (pt b (.cells cs)) kl kl') (ho:o<cs.length):
 dB (R (λh=>aD P ds (⟨⟨none,g,.store 1 x y⟩,[]⟩::rest) (act n l D pm ro) h K) B w0 kl F) (R (λh=>aD P ds rest (act n l D pm ro) h K) B w0 (pt b (.cells (cs.set o v))::kl') F):=
 ⟨λr w s=>Jy hg (v:=dG) (h':=w.h.set b (.cells (cs.set o v))) (by
  simp only[aA.run,hx,hy,hv];show cond (Nat.beq 1 1) _ _=_;simp only[IH.storeAt,(s.at_ hk).2,OB cs o v ho];rfl) (r _ ((s.fK hk).write))⟩
theorem YC{x:Operand}{b o:Nat}{cs:List Value}{v:Value}(hn:Nat.blt d n=true)(hg:bS l g=true)(hx:ev l x=.pointer (some ⟨b,o,none⟩))(hk:ay (pt b (.cells cs)) kl kl')(hv:cs[o]? =some v):
 dB (R (λh=>aD P ds (⟨⟨some d,g,.fT x⟩,[]⟩::rest) (act n l D pm ro) h K) B w0 kl F) (R (λh=>aD P ds rest (act n ((d,v)::l) D pm ro) h K) B w0 kl F):=
 ⟨λr w s=>Fy hn hg hx (s.at_ hk) hv (r w s)⟩
theorem OZ{α:Type}{E:Enc α}{v:Value}{xs:List α}{w:Wd}(h:(ah E v xs).p w):∃a c,v=.slice a xs.length c:=by
 rcases h with⟨rfl,a,c,rfl,_⟩|⟨i,o,f,c,cs,⟨h1,_⟩,_⟩
 ·exact⟨a,c,rfl⟩
 ·exact⟨_,c,h1⟩
theorem YD{α:Type}{E:Enc α}{v:Value}{xs:List α}{w:Wd}(h:(ah E v xs).p w){k:Nat}(hk:k<xs.length):
 ∃i o f c x y,v=.slice (some ⟨i,o,f⟩) xs.length c/\xs[k]? =some x/\(gH i (o+k*E.n) (E.pat x y)).p w/\∀f∈E.fs x y,f.p w:=by
 rcases h with⟨rfl,a,c,rfl,_⟩|⟨i,o,f,c,cs,⟨h1,_⟩,h2,h3⟩
 ·simp at hk
 ·obtain⟨y,q1,q2⟩:=h3 k xs[k] (cK hk);exact⟨i,o,some f,c,xs[k],y,h1,cK hk,⟨cs,h2,q1⟩,q2⟩
theorem YE{α:Type}{E:Enc α}{x:Operand}{v:Value}{xs:List α}(hn:Nat.blt d n=true)(hg:bS l g=true)(hx:ev l x=v)(hf:ah E v xs∈F):
 dB (R (λh=>aD P ds (⟨⟨some d,g,.oC x⟩,[]⟩::rest) (act n l D pm ro) h K) B w0 kl F) (R (λh=>aD P ds rest (act n ((d,.int .i64 (xs.length:Int))::l) D pm ro) h K) B w0 kl F):=
 ⟨λr w s=>by
  obtain⟨a,c,e⟩:=OZ (s.facts _ hf);exact Oy hn hg (hx.trans e) (r w s)⟩
theorem JK{α:Type}{E:Enc α}{v:Value}{xs:List α}{w:Wd}{S:List Nat}(h:(ap E v xs).p w S):∃a,v=.slice a xs.length xs.length:=by
 rcases h with⟨rfl,rfl,_⟩|⟨b,o,f,cells,h1,_⟩
 ·exact⟨none,rfl⟩
 ·exact⟨_,h1⟩
theorem YF{α:Type}{E:Enc α}{x:Operand}{v:Value}{xs:List α}(hn:Nat.blt d n=true)(hg:bS l g=true)(hx:ev l x=v)(hk:ay (ap E v xs) kl kl'):
 dB (R (λh=>aD P ds (⟨⟨some d,g,.oC x⟩,[]⟩::rest) (act n l D pm ro) h K) B w0 kl F) (R (λh=>aD P ds rest (act n ((d,.int .i64 (xs.length:Int))::l) D pm ro) h K) B w0 kl F):=
 ⟨λr w s=>by
  obtain⟨S,⟨S1,S2,q,_⟩,_⟩:=(s.fK hk).own;obtain⟨a,e⟩:=JK q;exact Oy hn hg (hx.trans e) (r w s)⟩
theorem JL{α:Type}{E:Enc α}{x i:Operand}{v:Value}{xs:List α}{size:Nat}{k:Int}{kk:IntKind}(hn:Nat.blt d n=true)(hg:bS l g=true)(hx:ev l x=v)(hi:ev l i=.int kk k)(hf:ah E v xs∈F)
 (hs:E.n=size) (h0:0<=k) (h1:k<xs.length):
 dB (R (λh=>aD P ds (⟨⟨some d,g,.kV size x i⟩,[]⟩::rest) (act n l D pm ro) h K) B w0 kl F)
  (∀b o z y,xs[k.toNat]? =some z->R (λh=>aD P ds rest (act n ((d,.pointer (some ⟨b,o,none⟩))::l) D pm ro) h K) B w0 kl (gH b o (E.pat z y)::(E.fs z y++F))):=by
 refine⟨λr w s=>?_⟩;obtain⟨b,o,f,c,z,y,rfl,h2,h3,h4⟩:=YD (s.facts _ hf) (k:=k.toNat) (by omega);refine JA hn hg hx hi h0 h1 (r b _ z y h2 w ?_);rw[<- hs];exact(s.add (F':=gH b (o+k.toNat*E.n) (E.pat z y)::E.fs z y) (λf hf=>by
  rcases dF.1 hf with rfl|hf
  ·exact h3
  ·exact h4 f hf))
theorem O0{x i:Operand}{v:Value}{xs:List Int}{k:Int}{kk:IntKind}(hn:Nat.blt d n=true)(hg:bS l g=true)(hx:ev l x=v)(hi:ev l i=.int kk k)(hf:ah ae v xs∈F)(h0:0<=k)(h1:k<xs.length):
 dB (R (λh=>aD P ds (⟨⟨some d,g,.kV 1 x i⟩,[]⟩::rest) (act n l D pm ro) h K) B w0 kl F)
  (∀b o z,xs[k.toNat]? =some z->R (λh=>aD P ds rest (act n ((d,.pointer (some ⟨b,o,none⟩))::l) D pm ro) h K) B w0 kl (gH b o [.int .i64 z]::F)):=
 ⟨λr=>(JL hn hg hx hi hf rfl h0 h1).h λb o z y hz=>r b o z hz⟩
theorem O1{x i:Operand}{v:Value}{xs:List Bool}{k:Int}{kk:IntKind}(hn:Nat.blt d n=true)(hg:bS l g=true)(hx:ev l x=v)(hi:ev l i=.int kk k)(hf:ah OX v xs∈F)(h0:0<=k)(h1:k<xs.length):
 dB (R (λh=>aD P ds (⟨⟨some d,g,.kV 1 x i⟩,[]⟩::rest) (act n l D pm ro) h K) B w0 kl F)
  (∀b o z,xs[k.toNat]? =some z->R (λh=>aD P ds rest (act n ((d,.pointer (some ⟨b,o,none⟩))::l) D pm ro) h K) B w0 kl (gH b o [.bool z]::F)):=
 ⟨λr=>(JL hn hg hx hi hf rfl h0 h1).h λb o z y hz=>r b o z hz⟩
theorem gq{α:Type}(E:Enc α){Q:IH->Prop}(h:R Q B w0 (ap E (.slice none 0 0) []::kl) F):R Q B w0 kl F:=λw s=>by
 obtain⟨S,h1,h2,h3⟩:=s.own;exact h w ⟨s.agree,s.le,s.fM,⟨S,⟨[],S,.inl ⟨rfl,rfl,rfl⟩,h1,rfl⟩,h2,h3⟩,s.facts⟩
theorem YG{A:OA}{fs:List aJ}{Q:IH->Prop}(hA:qN A fs)(hk:ay A kl kl')(h:R Q B w0 kl' (fs++F)):R Q B w0 kl F:=λw s=>by
 obtain⟨w',e,s'⟩:=(s.fK hk).freeze hA;rw[<- e];exact h w' s'
theorem _root_.Go.Ideal.St.fresh{w:Wd}{o:dz}{h':IH}(s:St B w0 kl F w)(ag:Agree w.h h')(at_:At h' w.h.next o)(hn:h'.next=w.h.next+1):∃w':Wd,w'.h=h'/\St B w0 (pt w.h.next o::kl) F w':=by
 have hg:∀i,i<w.h.next->h'.get i=w.h.get i:=ag.get
 let w':Wd:=⟨h',w.z,λi hi=>by rw[hn];exact Ho (w.j4 i hi)⟩
 have hle:w.Le w':=⟨by show _<=h'.next;omega,λ_ h=>h,λi hi=>hg i (w.j4 i hi)⟩
 obtain⟨S,h1,h2,h3⟩:=s.own;have hnx:w'.h.next=w.h.next+1:=hn
 refine⟨w',rfl,⟨by have:=s.agree.next;omega,λi hi hb=>(hg i (kT hi s.agree.next)).trans (s.agree.get i hi hb),λa b=>?_⟩,s.le.trans hle,s.fM,
  ⟨[w.h.next]++S,⟨[w.h.next],S,⟨rfl,at_.2⟩,eZ.loc hle (λi hi=>hg i (h3 i hi).2.1) h1,rfl⟩,?_,?_⟩,λf hf=>f.mono hle (s.facts f hf)⟩
 ·have hl:=s.agree.low a b;have:=s.agree.next
  show h'.low=_;rw[ag.low (by omega),hl]
 ·refine Bo.2 ⟨λhm=>?_,h2⟩;have:=(h3 _ hm).2.1;omega
 ·intro i hi;rcases dZ.1 hi with hi|hi
  ·rw[bG.1 hi];exact⟨.inl s.agree.next,by omega,λhz=>absurd (w.j4 _ hz) (Nat.lt_irrefl _)⟩
  ·exact⟨(h3 i hi).1,by have:=(h3 i hi).2.1;omega,(h3 i hi).2.2⟩
theorem YH{α:Type}{E:Enc α}{e:TypeId}{size bytes b':Nat}{s x:Operand}{v:Value}{xs:List α}{a:α}{y:E.Y}{cs:List Value}{k1 k2:List OA}(hn:Nat.blt d n=true)(hg:bS l g=true)
 (hs:ev l s=v) (hx:ev l x=.slice (some ⟨b',0,some 0⟩) 1 1) (hk:ay (ap E v xs) kl k1) (hc:ay (pt b' (.cells cs)) k1 k2) (hp:cs=E.pat a y) (hF:Sub (E.fs a y) F) (hz:E.n=size)
 (hm:(xs.length+1)*bytes<=1073741824/\(xs.length+1)*size<=1073741824/\xs.length+1<=1073741824):
 dB (R (λh=>aD P ds (⟨⟨some d,g,.append e size bytes s x⟩,[]⟩::rest) (act n l D pm ro) h K) B w0 kl F)
  (∀v',R (λh=>aD P ds rest (act n ((d,v')::l) D pm ro) h K) B w0 (ap E v' (xs++[a])::k2) F):=by
 refine⟨λr w st=>?_⟩;subst hp hz;have hlen:=E.len a y;have st2:St B w0 (ap E v xs::pt b' (.cells (E.pat a y))::k2) F w:=st.jB (.cons hk (.cons hc .nil));have hat:At w.h b' (.cells (E.pat a y)):=st2.at_ (.there .here);have kZ:St B w0 (ap E v xs::k2) F w:=(st2.fK (.there .here)).tail;have hfs:∀f∈E.fs a y,f.p w:=λf hf=>st.facts f (hF.mem f hf);have hread:w.h.gG b' 0 (1*E.n)=some (E.pat a y):=by
  rw[hat.c.gG,l6,l7,xM,uj,if_pos (by omega),<- hlen,bK]
 have hx1:lZ (ev l x)=some (0+1):=by rw[hx];rfl
 have hx2:kW E.n (0+1) (ev l x) w.h=some (E.pat a y):=by rw[hx];exact hread
 -- what lies there afterwards
 have put:∀(w':Wd) (c:Nat) (f:Nat) (cells:List Value),cells.length=xs.length*E.n->(∀(k:Nat) z,xs[k]? =some z->∃y,(∀(j:Nat) u,(E.pat z y)[j]? =some u->cells[k*E.n+j]? =some u)/\∀f∈E.fs z y,f.p w')->(∀f∈E.fs a y,f.p w')->
  (f=0\/f=E.n)->∀S,(pt c (.cells (cells++E.pat a y))).p w' S->(ap E (.slice (some ⟨c,0,some f⟩) (xs.length+1) (xs.length+1)) (xs++[a])).p w' S:=by
  intro w' c f cells h1 h2 h3 h4 S hp;refine .inr ⟨c,0,f,_,by rw[gB];rfl,h4,hp.1,hp.2,by rw[gB,gB,h1,hlen,uk,ow,xM,eH],λk z hk=>?_⟩;by_cases hlt:k<xs.length
  ·rw[kU hlt]at hk;obtain⟨y',q1,q2⟩:=h2 k z hk;refine⟨y',λj u hj=>?_,q2⟩;rw[eH];have:=q1 j u hj;rw[kU (bT.1 this).1];exact this
  ·rw[mZ (by omega)]at hk;have hk0:k=xs.length:=by
    have:=(bT.1 hk).1;simp at this;omega
   subst hk0;simp at hk;subst hk;refine⟨y,λj u hj=>?_,h3⟩;rw[eH,mZ (by omega),h1,Hq];exact hj
 obtain⟨S,⟨S1,S2,q,q2,e1⟩,hnd,hown⟩:=kZ.own;rcases q with⟨rfl,rfl,rfl⟩|⟨b,o,f,cells,rfl,hf,rfl,hb,hcl,hel⟩
 ·refine OC (c:=0) hn hg hs hx1 hx2 (by simpa using hm) λh' ag uQ hnx=>?_;obtain⟨w',rfl,iK⟩:=kZ.tail.fresh ag uQ hnx;refine r _ w' (iK.wL λS hp=>?_);have hle:∀f∈E.fs a y,f.p w':=λf hf=>iK.facts f (hF.mem f hf);exact put w' _ E.n [] (by simp) (λk z hk=>by cases hk) hle (.inr rfl) S hp
 ·have wM:St B w0 (pt b (.cells cells)::k2) F w:=⟨kZ.agree,kZ.le,kZ.fM,⟨S,⟨_,S2,⟨rfl,hb⟩,q2,e1⟩,hnd,hown⟩,kZ.facts⟩
  have Dh:At w.h b (.cells cells):=wM.at_ .here;refine JB (old:=cells.drop o) (xs:=E.pat a y) hn hg hs hx1 hx2 ?_ (hf.elim (λe=>.inl (by rw[e])) λe=>.inr (by rw[e])) hm λh' mv=>?_
  ·have hdl:(cells.drop o).length=xs.length*E.n:=by rw[lX];omega
   rw[Dh.c.gG,l6,l7,if_pos (by omega),<- hdl,bK]
  obtain⟨w',rfl,iK,wN⟩:=wM.move mv;refine r _ w' (iK.wL λS hp=>?_);have hle:∀f∈E.fs a y,f.p w':=λf hf=>iK.facts f (hF.mem f hf);refine put w' _ E.n (cells.drop o) (by rw[lX];omega) (λk z hk=>?_) hle (.inr rfl) S hp;obtain⟨y',u1,u2⟩:=hel k z hk;exact⟨y',λj u hj=>by rw[mY,<- ng];exact u1 j u hj,λf hf=>f.mono wN (u2 f hf)⟩
theorem YI{x i:Operand}{v:Value}{xs:List Int}{z:Int}{k:Nat}{kk:IntKind}{d2:Nat}{g2:Option (Tmp×Bool)}(hn:Nat.blt d n=true)(hg:bS l g=true)(hn2:Nat.blt d2 n=true)(hg2:∀u,bS ((d,u)::l) g2=true)(hx:ev l x=v)(hi:ev l i=.int kk (k:Int))
 (hk:ay (ap ae v xs) kl kl') (hz:xs[k]? =some z):
 dB (R (λh=>aD P ds (⟨⟨some d,g,.kV 1 x i⟩,[]⟩::⟨⟨some d2,g2,.fT (.tmp d)⟩,[]⟩::rest) (act n l D pm ro) h K) B w0 kl F)
  (∀b o,R (λh=>aD P ds rest (act n ((d2,.int .i64 z)::(d,.pointer (some ⟨b,o,none⟩))::l) D pm ro) h K) B w0 kl F):=by
 refine⟨λr w s=>?_⟩;have s1:=s.fK hk;obtain⟨S,⟨S1,S2,p,p2,e⟩,h2,h3⟩:=s1.own;have hlt:=(bT.1 hz).1;rcases p with⟨h,_⟩|⟨b,o,f,cells,e1,hf,e2,hb,hcl,hel⟩
 ·rw[h]at hz;cases hz
 ·subst e1;obtain⟨y,u1,_⟩:=hel k z hz;have hc:cells[o+(k:Int).toNat*1]? =some (.int .i64 z):=by
   have:=u1 0 (.int .i64 z) rfl;simpa[ae]using this
  refine JA hn hg hx hi (by omega) (by omega) ?_;have hbS:b∈S:=by rw[e,e2];simp
  exact Fy hn2 (hg2 _) (by show lk _ d=_;simp[lk]) ⟨(h3 b hbS).2.1,hb⟩ hc (r _ _ w s)
end
end Go.Ideal
namespace Go.Ideal
variable {P:Program} {ρ:Operand->Value}
theorem pV{t:TypeId}{d:TypeDesc}(ht:P.underlying t=some d):dR P (underlying t)=some d:=by
 unfold underlying;rw[gJ];show(some P).bind _=_;simp only[Option.bind,ht];rfl
theorem Ac{op:BinOp}{t:TypeId}{x y:Operand}{a b:Value}(ha:∀c,a≠.agg c)(hn:a≠.nilIface):dR P (eqGuard op t x y a b)=some ():=by
 cases a with
 |nilIface=>exact absurd rfl hn
 |agg c=>exact absurd rfl (ha c)
 |_=>cases op<;>rfl
theorem O3{t:TypeId}{x y:Operand}{a b:Bool}(ht:P.underlying t=some .bool):kI P .eql t x y (.bool a) (.bool b)=some (.bool (a==b))/\kI P .neq t x y (.bool a) (.bool b)=some (.bool (a !=b)):=by
 have he:dR P (Op.equal t (.bool a) (.bool b))=some (a==b):=by
  show dR P (Op.equalIn (9999+1) t (.bool a) (.bool b))=_;unfold Op.equalIn;rw[gJ,pV ht];rfl
 have h1:jQ P (do eqGuard .eql t x y (.bool a) (.bool b);binOp .eql t (.bool a) (.bool b))=some (.bool (a==b)):=by
  unfold jQ;rw[gJ,Ac (by intro c e;cases e) (by intro e;cases e)];simp only[iE,binOp];rw[gJ,he];rfl
 have h2:jQ P (do eqGuard .neq t x y (.bool a) (.bool b);binOp .neq t (.bool a) (.bool b))=some (.bool (a !=b)):=by
  unfold jQ;rw[gJ,Ac (by intro c e;cases e) (by intro e;cases e)];simp only[iE,binOp];rw[gJ,he];rfl
 exact⟨h1,h2⟩
theorem Di{x y:Operand}{t:TypeId}{a b:Bool}(hx:ρ x=.bool a)(hy:ρ y=.bool b)(ht:P.underlying t=some .bool):Pu P ρ (.bin .eql t x y) (.bool (a==b)):=λh=>by
 simp only[aA.run,hx,hy,(O3 ht).1]
theorem Dj{x y:Operand}{t:TypeId}{a b:Bool}(hx:ρ x=.bool a)(hy:ρ y=.bool b)(ht:P.underlying t=some .bool):Pu P ρ (.bin .neq t x y) (.bool (a !=b)):=λh=>by
 simp only[aA.run,hx,hy,(O3 ht).2]
theorem O4{op:BinOp}{t:TypeId}{x y:Operand}{a b:ByteArray}{v:Value}(hv:dR P (Op.stringOp op a b)=some v)(hf:bH v=true):kI P op t x y (.string a) (.string b)=some v:=by
 have h1:jQ P (do eqGuard op t x y (.string a) (.string b);binOp op t (.string a) (.string b))=some v:=by
  unfold jQ;rw[gJ,Ac (by intro c e;cases e) (by intro e;cases e)];have hb:binOp op t (.string a) (.string b)=Op.stringOp op a b:=by cases op<;>rfl
  simp only[iE,hb,hv,hf,cond]
 exact h1
theorem Dk{x y:Operand}{t:TypeId}{a b:ByteArray}(hx:ρ x=.string a)(hy:ρ y=.string b):Pu P ρ (.bin .eql t x y) (.bool (a.toList==b.toList)):=λh=>by
 simp only[aA.run,hx,hy,O4 (op:=.eql) (v:=.bool (a.toList==b.toList)) rfl rfl]
theorem Dl{x y:Operand}{t:TypeId}{a b:ByteArray}(hx:ρ x=.string a)(hy:ρ y=.string b):Pu P ρ (.bin .neq t x y) (.bool (!(a.toList==b.toList))):=λh=>by
 simp only[aA.run,hx,hy,O4 (op:=.neq) (v:=.bool (!(a.toList==b.toList))) rfl rfl]
theorem Dm{op:BinOp}{t:TypeId}{x y:Operand}{a b:Int}{v:Value}(hq:nK op .i64 a b=none)(hv:dR P (binOp op t (.int .i64 a) (.int .i64 b))=some v)(hf:bH v=true):kI P op t x y (.int .i64 a) (.int .i64 b)=some v:=by
 have h1:jQ P (do eqGuard op t x y (.int .i64 a) (.int .i64 b);binOp op t (.int .i64 a) (.int .i64 b))=some v:=by
  unfold jQ;rw[gJ,Ac (by intro c e;cases e) (by intro e;cases e)];simp only[iE,hv,hf,cond]
 unfold kI;simp only[rM,cond,hq,bH,EB];exact h1
theorem wrap64{m:Int}(h1: -9223372036854775808<=m)(h2:m<9223372036854775808):IntKind.i64.wrap m=m:=IntWalk.i64_in m ⟨h1,by omega⟩
theorem Dn{x y:Operand}{t:TypeId}{a b:Int}(hx:ρ x=.int .i64 a)(hy:ρ y=.int .i64 b)(h1: -9223372036854775808<=a*b)(h2:a*b<9223372036854775808):Pu P ρ (.bin .mul t x y) (.int .i64 (a*b)):=λh=>by
 simp only[aA.run,hx,hy];rw[Dm (op:=.mul) (v:=.int .i64 (a*b)) rfl (by
  show dR P (Op.intArith .mul .i64 a b)=_;show some (Value.int .i64 (IntKind.i64.wrap (a*b)))=_;rw[wrap64 h1 h2]) rfl]
theorem FK{x y:Operand}{t:TypeId}{a b:Int}(hx:ρ x=.int .i64 a)(hy:ρ y=.int .i64 b)(hb:b≠0)(h1: -9223372036854775808<=a.tdiv b)(h2:a.tdiv b<9223372036854775808):Pu P ρ (.bin .quo t x y) (.int .i64 (a.tdiv b)):=λh=>by
 simp only[aA.run,hx,hy];rw[Dm (op:=.quo) (v:=.int .i64 (a.tdiv b)) rfl (by
  show dR P (Op.intDiv .quo .i64 a b)=_;unfold Op.intDiv;rw[if_neg hb];show some (Value.int .i64 (IntKind.i64.wrap (a.tdiv b)))=_;rw[wrap64 h1 h2]) rfl]
theorem JM{x y:Operand}{t:TypeId}{a b:Int}(hx:ρ x=.int .i64 a)(hy:ρ y=.int .i64 b)(hb:b≠0):Pu P ρ (.bin .rem t x y) (.int .i64 (a.tmod b)):=λh=>by
 simp only[aA.run,hx,hy];rw[Dm (op:=.rem) (v:=.int .i64 (a.tmod b)) rfl (by
  show dR P (Op.intDiv .rem .i64 a b)=_;unfold Op.intDiv;rw[if_neg hb];rfl) rfl]
theorem Dp{x i:Operand}{size b o m c k:Nat}{f:Option Nat}{kk:IntKind}(hx:ρ x=.slice (some ⟨b,o,f⟩) m c)(hi:ρ i=.int kk (k:Int))(h1:k<m):
 Pu P ρ (.kV size x i) (.pointer (some ⟨b,o+k*size,none⟩)):=Ab (k:=(k:Int)) hx hi (by omega) (by omega)
end Go.Ideal
namespace Go.Ideal
variable {P:Program}
def Left{Y:Type}(B:List Nat)(w0:Wd)(val:Y->Value)(kl':Y->List OA)(fs:Y->List aJ)(pr:Y->Prop):KR:=λr pm h'=>
 pm=none/\∃(w':Wd) (y:Y),w'.h=h'/\St B w0 (kl' y) (fs y) w'/\r=.ok (val y)/\pr y
def aZ{Y:Type}(P:Program)(fn:Fn)(args cap:List Value)(kl:List OA)(F:List aJ)(val:Y->Value)(kl':Y->List OA)(fs:Y->List aJ)(pr:Y->Prop):Prop:=
 ∀(B:List Nat) (w:Wd),St B w kl F w->CALL P ⟨fn,args,cap,none⟩ w.h (Left B w val kl' fs pr)
def nP:Nat->List Value->List (Nat×Value)->List (Nat×Value)
 |_,[],l=>l
 |i,v::vs,l=>nP (i+1) vs ((i,v)::l)
theorem O5:∀(args:List Value) (i:Nat) (l:List (Nat×Value)),uz args i (iC l)=iC (nP i args l)
 |[],i,l=>rfl
 |v::vs,i,l=>by
  show uz vs (i+1) (iC ((i,v)::l))=_;rw[O5 vs];rfl
theorem JN(n:Nat)(args:List Value)(pm:Option FrameMode):xV n args pm=act (pJ n (ig args)) (nP 0 args []) [] pm none:=by
 show aU.mk _ (uz args 0 (iC [])) _ _ _=_;rw[O5];rfl
theorem YJ{Y:Type}{f:FuncId}{args cap:List Value}{kl:List OA}{F:List aJ}{val:Y->Value}{kl':Y->List OA}{fs:Y->List aJ}{pr:Y->Prop}(cf:gF)(hF:(mJ P oI oJ).F f=some cf)
 (hb:∀B w0,R (λh=>EV P cf.body (act (pJ cf.ntmps (ig (args++cap))) (nP 0 (args++cap) []) [] none none) h (zY cf (Left B w0 val kl' fs pr))) B w0 kl F):aZ P (.func f) args cap kl F val kl' fs pr:=by
 intro B w s;obtain⟨fn,h1,h2⟩:=(wF P oI oJ (λf q h v h' hm=>by cases hm)).fn f cf hF;refine Xz fn h1 cf h2 ?_;rw[JN];exact hb B w w s
section
variable {B:List Nat} {w0:Wd} {kl kl' bA:List OA} {F:List aJ} {K:KO} {ds:List Tmp} {rest:List bO} {n:Nat} {l:List (Nat×Value)} {D:List Deferred} {pm:Option FrameMode} {ro:Option Nat} {d:Nat} {g:Option (Tmp×Bool)}
theorem St.call{w w':Wd}{k1 k1' bA:List OA}{F1 F':List aJ}{S1 S2:List Nat}(s:St B w0 kl F w)(hp:∃S:List Nat,S.Perm (S1++S2)/\S.Nodup/\∀i∈S,(w0.h.next<=i\/i∈B)/\i<w.h.next/\¬w.z i)
 (h2:eZ w bA S2) (c:St S1 w k1' F' w'):St B w0 (k1'++bA) (F'++F) w':=by
 obtain⟨S,hperm,YK,hall⟩:=hp;have hnd:=hperm.nodup YK;have hall:∀i∈S1++S2,(w0.h.next<=i\/i∈B)/\i<w.h.next/\¬w.z i:=λi hi=>hall i (hperm.mem_iff.2 hi)
 have hd:=iA.1 hnd;obtain⟨S',c1,c2,c3⟩:=c.own;have hsame:∀i∈S2,w'.h.get i=w.h.get i:=λi hi=>c.agree.get i (hall i (ni _ hi)).2.1 (λhm=>hd.2.2 i hm i hi rfl);refine⟨⟨mX s.agree.next c.agree.next,λi hi hB=>?_,λa b=>?_⟩,s.le.trans c.le,λi hi hz=>?_,⟨S'++S2,c1.app (eZ.loc c.le hsame h2),?_,?_⟩,λf hf=>?_⟩
 ·rw[<- s.agree.get i hi hB];refine c.agree.get i (kT hi s.agree.next) (λhm=>?_);rcases(hall i (kw _ hm)).1 with q|q
  ·omega
  ·exact hB q
 ·have hl:=s.agree.low a b;rw[c.agree.low (by rw[hl];exact mX a s.agree.next) (λi hi=>?_),hl];rw[hl];rcases(hall i (kw _ hi)).1 with q|q
  ·omega
  ·exact b i q
 ·rcases c.fM i (kT hi s.agree.next) hz with q|q
  ·exact s.fM i hi q
  ·rcases(hall i (kw _ q)).1 with u|u
   ·omega
   ·exact .inr u
 ·refine iA.2 ⟨c2,hd.2.1,λa ha b hb e=>?_⟩;subst e;rcases(c3 a ha).1 with q|q
  ·have:=(hall a (ni _ hb)).2.1;omega
  ·exact hd.2.2 a q a hb rfl
 ·intro i hi;rcases dZ.1 hi with hi|hi
  ·refine⟨?_,(c3 i hi).2⟩;rcases(c3 i hi).1 with q|q
   ·exact .inl (mX s.agree.next q)
   ·exact(hall i (kw _ q)).1
  ·have q:=hall i (ni _ hi);refine⟨q.1,kT q.2.1 c.agree.next,λhz=>?_⟩;rcases c.fM i q.2.1 hz with u|u
   ·exact q.2.2 u
   ·exact hd.2.2 i u i hi rfl
 ·rcases dZ.1 hf with hf|hf
  ·exact c.facts f hf
  ·exact f.mono c.le (s.facts f hf)
def Same(P:Program)(re:List gI)(ρ:Operand->Value)(l:List (Nat×Value))(B:List Nat)(w0:Wd)(kl:List OA)(F:List aJ):Prop:=
 ∀w,St B w0 kl F w->∀r∈re,∃u h2,r.op.run P ρ w.h=some (u,h2)/\∀d',r.dst=some d'->lk l d'=u
theorem yH{ρ:Operand->Value}:Same P [] ρ l B w0 kl F:=λw s r hr=>by cases hr
theorem yI{re:List gI}{x:Operand}{b o:Nat}{cs:List Value}{v:Value}(hx:ev l x=.pointer (some ⟨b,o,none⟩))(hk:ay (pt b (.cells cs)) kl kl')(hv:jy cs o=some v)(hd:lk l d=v)
 (t:Same P re (ev l) l B w0 kl F):Same P (⟨some d,g,.fT x⟩::re) (ev l) l B w0 kl F:=λw s r hr=>by
 rcases dF.1 hr with rfl|hr
 ·have hc:w.h.mH b o=some v:=by rw[(s.at_ hk).c.mH,<- qD];exact hv
  exact⟨v,w.h,by simp only[aA.run,hx,hc],λd' e=>by cases e;exact hd⟩
 ·exact t w s r hr
theorem Ad{re:List gI}{x:Operand}{b o:Nat}{cs:List Value}{v:Value}(hx:ev l x=.pointer (some ⟨b,o,none⟩))(hk:gH b o cs∈F)(hv:jy cs 0=some v)(hd:lk l d=v)
 (t:Same P re (ev l) l B w0 kl F):Same P (⟨some d,g,.fT x⟩::re) (ev l) l B w0 kl F:=λw s r hr=>by
 rcases dF.1 hr with rfl|hr
 ·exact⟨v,w.h,by simp only[aA.run,hx,show w.h.mH b o=some v from FI (j:=0) (s.facts _ hk) hv],λd' e=>by cases e;exact hd⟩
 ·exact t w s r hr
theorem Ae{re:List gI}{x:Operand}{b o j:Nat}{cs:List Value}{v:Value}(hx:ev l x=.pointer (some ⟨b,o+j,none⟩))(hk:gH b o cs∈F)(hv:jy cs j=some v)(hd:lk l d=v)
 (t:Same P re (ev l) l B w0 kl F):Same P (⟨some d,g,.fT x⟩::re) (ev l) l B w0 kl F:=λw s r hr=>by
 rcases dF.1 hr with rfl|hr
 ·exact⟨v,w.h,by simp only[aA.run,hx,FI (s.facts _ hk) hv],λd' e=>by cases e;exact hd⟩
 ·exact t w s r hr
theorem Af{re:List gI}{x:Operand}{b o m:Nat}{cs c:List Value}(hx:ev l x=.pointer (some ⟨b,o,none⟩))(hk:ay (pt b (.cells cs)) kl kl')(hv:iQ (jm cs o) m=some c)(hd:lk l d=.agg ⟨c⟩)
 (t:Same P re (ev l) l B w0 kl F):Same P (⟨some d,g,.oz m x⟩::re) (ev l) l B w0 kl F:=λw s r hr=>by
 rcases dF.1 hr with rfl|hr
 ·have hc:w.h.gG b o m=some c:=by rw[(s.at_ hk).c.gG];exact hv
  exact⟨.agg ⟨c⟩,w.h,by simp only[aA.run,hx,hc],λd' e=>by cases e;exact hd⟩
 ·exact t w s r hr
theorem Ag{re:List gI}{x:Operand}{b o m:Nat}{cs c:List Value}(hx:ev l x=.pointer (some ⟨b,o,none⟩))(hk:gH b o cs∈F)(hv:iQ cs m=some c)(hd:lk l d=.agg ⟨c⟩)
 (t:Same P re (ev l) l B w0 kl F):Same P (⟨some d,g,.oz m x⟩::re) (ev l) l B w0 kl F:=λw s r hr=>by
 rcases dF.1 hr with rfl|hr
 ·exact⟨.agg ⟨c⟩,w.h,by simp only[aA.run,hx,show w.h.gG b o m=some c from FJ (j:=0) (s.facts _ hk) (by rw[l6];exact hv)],λd' e=>by cases e;exact hd⟩
 ·exact t w s r hr
theorem Ah{re:List gI}{x:Operand}{b o j m:Nat}{cs c:List Value}(hx:ev l x=.pointer (some ⟨b,o+j,none⟩))(hk:gH b o cs∈F)(hv:iQ (jm cs j) m=some c)(hd:lk l d=.agg ⟨c⟩)
 (t:Same P re (ev l) l B w0 kl F):Same P (⟨some d,g,.oz m x⟩::re) (ev l) l B w0 kl F:=λw s r hr=>by
 rcases dF.1 hr with rfl|hr
 ·exact⟨.agg ⟨c⟩,w.h,by simp only[aA.run,hx,FJ (s.facts _ hk) hv],λd' e=>by cases e;exact hd⟩
 ·exact t w s r hr
theorem JO{re:List gI}{op:aA}{v:Value}(hp:Pu P (ev l) op v)(hd:lk l d=v)(t:Same P re (ev l) l B w0 kl F):Same P (⟨some d,g,op⟩::re) (ev l) l B w0 kl F:=λw s r hr=>by
 rcases dF.1 hr with rfl|hr
 ·exact⟨v,w.h,hp w.h,λd' e=>by cases e;exact hd⟩
 ·exact t w s r hr
theorem YL{x y:Operand}{b o m:Nat}{cs vs c:List Value}{v:Value}{re:List gI}(hg:bS l g=true)(hx:ev l x=.pointer (some ⟨b,o,none⟩))(hw:ev l y=v)(hy:cellsOf v=some vs)(hm:Nat.beq (ig vs) m=true)
 (hk:ay (pt b (.cells cs)) kl kl') (hv:iL cs o vs=some c) (hs:Same P re (ev l) l B w0 (pt b (.cells c)::kl') F):
 dB (R (λh=>aD P ds (⟨⟨none,g,.store m x y⟩,re⟩::rest) (act n l D pm ro) h K) B w0 kl F) (R (λh=>aD P ds rest (act n l D pm ro) h K) B w0 (pt b (.cells c)::kl') F):=
 ⟨λr w s=>by
  subst hw;have s':=(s.fK hk).write (o':=.cells c);refine .jY (tH hg) dG (w.h.set b (.cells c)) (by rw[lS];simp only[aA.run,hx,hy,hm];simp only[IH.storeAt,(s.at_ hk).2,hv];rfl) (λq hq _=>?_) (r _ s');obtain⟨u,h2,e1,e2⟩:=hs _ s' q hq;exact⟨u,h2,by show q.op.run P (act n l D pm ro).eval _=_;rw[lS];exact e1,λd' hd=>by rw[<- e2 d' hd];exact sw _ _⟩⟩
theorem YM{op:aA}{v:Value}{re:List gI}(hn:Nat.blt d n=true)(hg:bS l g=true)(hp:Pu P (ev l) op v)(hs:Same P re (ev ((d,v)::l)) ((d,v)::l) B w0 kl F):
 dB (R (λh=>aD P ds (⟨⟨some d,g,op⟩,re⟩::rest) (act n l D pm ro) h K) B w0 kl F) (R (λh=>aD P ds rest (act n ((d,v)::l) D pm ro) h K) B w0 kl F):=
 ⟨λr w s=>by
  refine .jY (tH hg) v w.h (by rw[lS];exact hp w.h) (λq hq _=>?_) (by rw[nO hn];exact r w s);obtain⟨u,h2,e1,e2⟩:=hs w s q hq;rw[nO hn];exact⟨u,h2,by rw[lS];exact e1,λd' hd=>by rw[<- e2 d' hd];exact sw _ _⟩⟩
theorem YN{Y:Type}{f:Operand}{xs:List Operand}{re:List gI}{fn:Fn}{first captured vs as:List Value}{k1:List OA}{F1:List aJ}{val:Y->Value}{k1':Y->List OA}{fs:Y->List aJ}{pr:Y->Prop}
 (hc:aZ P fn as captured k1 F1 val k1' fs pr) (hn:Nat.blt d n=true) (hg:bS l g=true) (hf:ev l f=.func fn ⟨first⟩ ⟨captured⟩) (hx:EvL (ev l) xs vs) (ha:first++vs=as)
 (hk:aH k1 kl bA) (hF:Sub F1 F)
 (hs:∀y,pr y->Same P re (ev ((d,val y)::l)) ((d,val y)::l) B w0 (k1' y++bA) (fs y++F))
 (next:∀y,pr y->R (λh=>aD P ds rest (act n ((d,val y)::l) D pm ro) h K) B w0 (k1' y++bA) (fs y++F)):
 R (λh=>aD P ds (⟨⟨some d,g,.call f xs⟩,re⟩::rest) (act n l D pm ro) h K) B w0 kl F:=by
 intro w s;obtain⟨S,h1,h2,h3⟩:=s.own;obtain⟨S1,S2,q1,q2,hp⟩:=h1.jB hk;have hsub:∀i∈S1,i∈S:=λi hi=>hp.mem_iff.2 (kw _ hi);have s1:St S1 w k1 F1 w:=⟨⟨bI _,λ_ _ _=>rfl,λ_ _=>rfl⟩,Wd.Le.refl w,λi _ hz=>.inl hz,⟨S1,q1,(iA.1 (hp.nodup h2)).1,λi hi=>⟨.inr hi,(h3 i (hsub i hi)).2⟩⟩,λf hf=>s.facts f (hF.mem f hf)⟩
 have hcall:=hc S1 w s1;subst ha;rw[<- hx.map]at hcall;have back:∀(w':Wd) (y:Y),St S1 w (k1' y) (fs y) w'->St B w0 (k1' y++bA) (fs y++F) w':=λw' y c=>s.call (k1:=k1) (F1:=F1) ⟨S,hp,h2,h3⟩ q2 c;refine s_call hn hg fn hf _ hcall ?_ ?_ ?_ ?_
 ·rintro v h' ⟨_,w',y,rfl,c,hv,hpr⟩;injection hv with hv;subst hv;exact hs y hpr w' (back w' y c)
 ·rintro v h' ⟨_,w',y,rfl,c,hv,hpr⟩;injection hv with hv;subst hv;exact next y hpr w' (back w' y c)
 ·rintro ch h' ⟨_,w',y,rfl,c,hv,hpr⟩;cases hv
 ·rintro r p h' ⟨e,_⟩;exact e
inductive RS(l:List (Nat×Value))(kl:List OA):List oF->List Value->Prop
 |nil:RS l kl [] []
 |tmp {t:Tmp} {rs:List oF} {v:Value} {vs:List Value} (h:lk l t=v) (r:RS l kl rs vs):RS l kl (.tmp t::rs) (v::vs)
 |cell1 {t:Tmp} {rs:List oF} {v:Value} {vs cs:List Value} {b o:Nat} {kl':List OA} (h:lk l t=.pointer (some ⟨b,o,none⟩)) (hk:ay (pt b (.cells cs)) kl kl') (hv:jy cs o=some v) (r:RS l kl rs vs):RS l kl (.cell1 t::rs) (v::vs)
 |oG {n:Nat} {t:Tmp} {rs:List oF} {vs cs c:List Value} {b o:Nat} {kl':List OA} (h:lk l t=.pointer (some ⟨b,o,none⟩)) (hk:ay (pt b (.cells cs)) kl kl') (hv:iQ (jm cs o) n=some c) (r:RS l kl rs vs):
   RS l kl (.oG n t::rs) (.agg ⟨c⟩::vs)
theorem RS.all{w:Wd}(s:St B w0 kl F w):∀{rs:List oF} {vs:List Value},RS l kl rs vs->uA (iC l) w.h rs=some vs
 |_,_,.nil=>rfl
 |_,_,.tmp (t:=t) (rs:=rs) (v:=v) (vs:=vs) h r=>by
  have ih:=RS.all s r;show(match qC (iC l) w.h (.tmp t),uA (iC l) w.h rs with|some v,some vs=>some (v::vs)|_,_=>none)=_;rw[ih];simp only[qC,sw,h]
 |_,_,.cell1 (t:=t) (rs:=rs) (v:=v) (vs:=vs) h hk hv r=>by
  have ih:=RS.all s r;show(match qC (iC l) w.h (.cell1 t),uA (iC l) w.h rs with|some v,some vs=>some (v::vs)|_,_=>none)=_;rw[ih];simp only[qC,sw,h,(s.at_ hk).2,hv]
 |_,_,.oG (n:=n) (t:=t) (rs:=rs) (vs:=vs) (c:=c) h hk hv r=>by
  have ih:=RS.all s r;show(match qC (iC l) w.h (.oG n t),uA (iC l) w.h rs with|some v,some vs=>some (v::vs)|_,_=>none)=_;rw[ih];simp only[qC,sw,h,IH.ny,(s.at_ hk).2,hv]
def pW(vs:List Value):Value:=
 match vs with
 |[v]=>v
 |vs=>.tuple ⟨vs⟩
theorem O6{Y:Type}{o:Out}{cf:gF}{vs:List Value}{val:Y->Value}{k1:Y->List OA}{fs:Y->List aJ}{pr:Y->Prop}(y:Y)(hr:RS l kl cf.results vs)(hv:pW vs=val y)(hp:pr y)(hk:aH (k1 y) kl bA)(hF:Sub (fs y) F)
 (ho:o=.normal\/o=.ret):R (λh=>zY cf (Left B w0 val k1 fs pr) o (act n l [] none ro) h) B w0 kl F:=by
 intro w s;have h1:oH cf.results (iC l) w.h=some (val y):=by
  unfold oH;rw[hr.all s];rw[<- hv];match vs with
  |[]=>rfl
  |[v]=>rfl
  |_::_::_=>rfl
 have h2:Left B w0 val k1 fs pr (.ok (val y)) none w.h:=⟨rfl,w,y,rfl,((s.jB hk).drop).sub hF,rfl,hp⟩
 rcases ho with rfl|rfl
 ·exact⟨val y,h1,rfl,h2⟩
 ·exact⟨val y,h1,rfl,h2⟩
inductive kE{α:Type}(F0:List α):List α->Prop
 |here:kE F0 F0
 |cons {a:α} {F:List α} (h:kE F0 F):kE F0 (a::F)
 |app {G F:List α} (h:kE F0 F):kE F0 (G++F)
theorem kE.mem{α:Type}{F0:List α}:∀{F:List α},kE F0 F->∀f∈F0,f∈F
 |_,.here,f,hf=>hf
 |_,.cons h,f,hf=>dA _ (h.mem f hf)
 |_,.app h,f,hf=>ni _ (h.mem f hf)
inductive pX:List (Nat×Value)->List (Nat×Value)->List (Nat×Value)->Prop
 |nil {ks:List (Nat×Value)}:pX [] ks []
 |drop {k:Nat} {v:Value} {l ks r:List (Nat×Value)} (h:(ks.any λp=>Nat.beq p.1 k)=true) (t:pX l ks r):pX ((k,v)::l) ks r
 |keep {k:Nat} {v:Value} {l ks r:List (Nat×Value)} (h:(ks.any λp=>Nat.beq p.1 k)=false) (t:pX l ((k,v)::ks) r):pX ((k,v)::l) ks ((k,v)::r)
def LI{X:Type}(n:Nat)(D:List Deferred)(pm:Option FrameMode)(ro:Option Nat)(B:List Nat)(w0:Wd)(m:X->Nat)(L:X->List (Nat×Value))(KL:X->List OA)(FF:X->List aJ)(inv:X->Prop)
 (l0:List (Nat×Value)) (bA:List OA) (F0:List aJ):Nat->aU->IH->Prop:=λr a h=>
 ∃(x:X) (w:Wd),r=m x/\a=act n (L x++l0) D pm ro/\w.h=h/\St B w0 (KL x++bA) (FF x++F0) w/\inv x
theorem YO{X:Type}{c:dm}(m:X->Nat)(L:X->List (Nat×Value))(KL:X->List OA)(FF:X->List aJ)(inv:X->Prop)(x0:X)(hi:inv x0)(l0:List (Nat×Value))(hl:sub (L x0++l0) l)(hk:aH (KL x0) kl bA)(hF:Sub (FF x0) F)
 (body:∀x,inv x->R (λh=>EV P c (act n (L x++l0) D pm ro) h (uO (LI n D pm ro B w0 m L KL FF inv l0 bA F) (m x) K)) B w0 (KL x++bA) (FF x++F)):
 R (λh=>EV P (.loop c) (act n l D pm ro) h K) B w0 kl F:=by
 intro w s;refine Oq (Js hl) ?_;refine Xy (LI n D pm ro B w0 m L KL FF inv l0 bA F) ?_ (m x0) _ _ ⟨x0,w,rfl,rfl,rfl,(s.jB hk).add (λf hf=>s.facts f (hF.mem f hf)),hi⟩;rintro r a h ⟨x,w',rfl,rfl,rfl,s',hx⟩;exact body x hx w' s'
theorem YP{X:Type}{m:X->Nat}{L:X->List (Nat×Value)}{KL:X->List OA}{FF:X->List aJ}{inv:X->Prop}{l0:List (Nat×Value)}{dX:List OA}{F0:List aJ}{m0:Nat}(x:X)(hm:m x<m0)(hi:inv x)(hl:sub (L x++l0) l)
 (hk:aH (KL x++bA) kl dX) (hF:Sub (FF x) F) (yJ:kE F0 F):R (λh=>uO (LI n D pm ro B w0 m L KL FF inv l0 bA F0) m0 K .normal (act n l D pm ro) h) B w0 kl F:=by
 intro w s;refine XH (m x) hm hl ⟨x,w,rfl,rfl,rfl,?_,hi⟩;have s':=(s.jB hk).drop;exact⟨s'.agree,s'.le,s'.fM,s'.own,λf hf=>(dZ.1 hf).elim (λhf=>s.facts f (hF.mem f hf)) (λhf=>s.facts f (yJ.mem f hf))⟩
end
