/-
  The ideal machine, 50: worlds with frozen blocks, facts, owned blocks; what holds of all of them.
-/
import Derived.Test.YtoohgkkmdnbnfaaGreatDoorIdealHA
set_option linter.all false
namespace Go.Ideal
variable {P:Program}
structure Wd where
 h:IH
 z:Nat->Prop
 kR:∀i,z i->i<h.next
structure Wd.Le(w w':Wd):Prop where
 next:w.h.next<=w'.h.next
 z:∀i,w.z i->w'.z i
 get:∀i,w.z i->w'.h.get i=w.h.get i
theorem Wd.Le.refl(w:Wd):w.Le w:=⟨bJ _,λ_ h=>h,λ_ _=>rfl⟩
theorem Wd.Le.trans{w w' w'':Wd}(a:w.Le w')(b:w'.Le w''):w.Le w'':=
 ⟨lF a.next b.next,λi h=>b.z i (a.z i h),λi h=>(b.get i (a.z i h)).trans (a.get i h)⟩
structure aH where
 p:Wd->Prop
 mono:∀{w w':Wd},w.Le w'->p w->p w'
def Fz(w:Wd)(b:Nat)(cs:List Value):Prop:=w.z b/\(w.h.get b=some (.cells cs)\/w.h.get b=some (.jk cs))
theorem Fz.mono{w w':Wd}(a:w.Le w'){b:Nat}{cs:List Value}(h:Fz w b cs):Fz w' b cs:=⟨a.z b h.1,by rw[a.get b h.1];exact h.2⟩
theorem Fz.cells{w:Wd}{b:Nat}{cs:List Value}(h:Fz w b cs):Cells w.h b cs:=⟨w.kR b h.1,h.2⟩
def eG(b o:Nat)(cs:List Value):aH:=
 ⟨λw=>∃cells,Fz w b cells/\∀(j:Nat) u,cs[j]? =some u->cells[o+j]? =some u,λa ⟨cells,h1,h2⟩=>⟨cells,h1.mono a,h2⟩⟩
structure Enc(α:Type) where
 n:Nat
 Y:Type
 pat:α->Y->List Value
 fs:α->Y->List aH
 len:∀a y,(pat a y).length=n
def Lu(n:Nat):Option Addr->Prop
 |none=>True
 |some ⟨_,_,some f⟩=>f=0\/f=n
 |some ⟨_,_,none⟩=>False
def ah{α:Type}(E:Enc α)(v:Value)(xs:List α):aH:=
 ⟨λw=>(xs=[]/\∃a c,v=.slice a 0 c/\Lu E.n a)\/∃i o f c cells,(v=.slice (some ⟨i,o,some f⟩) xs.length c/\xs.length<=c/\(f=0\/f=E.n))/\Fz w i cells/\
  ∀(k:Nat) x,xs[k]? =some x->∃y,(∀(j:Nat) u,(E.pat x y)[j]? =some u->cells[o+k*E.n+j]? =some u)/\∀f∈E.fs x y,f.p w,
  λa h=>by
   rcases h with h|⟨i,o,f,c,cells,h1,h2,h3⟩
   ·exact .inl h
   ·refine .inr ⟨i,o,f,c,cells,h1,h2.mono a,λk x hk=>?_⟩;obtain⟨y,q1,q2⟩:=h3 k x hk;exact⟨y,q1,λf hf=>f.mono a (q2 f hf)⟩⟩
def aa:Enc Int:=⟨1,Unit,λx _=>[.int .i64 x],λ_ _=>[],λ_ _=>rfl⟩
def QR:Enc Bool:=⟨1,Unit,λx _=>[.bool x],λ_ _=>[],λ_ _=>rfl⟩
def aR:Enc ByteArray:=⟨1,Unit,λx _=>[.string x],λ_ _=>[],λ_ _=>rfl⟩
def aj{α:Type}(E:Enc α):Enc (List α):=⟨1,Value,λ_ v=>[v],λxs v=>[ah E v xs],λ_ _=>rfl⟩
structure OA where
 p:Wd->List Nat->Prop
 loc:∀{w w':Wd} {S:List Nat},w.Le w'->(∀i∈S,w'.h.get i=w.h.get i)->p w S->p w' S
def pt(b:Nat)(o:dG):OA:=⟨λw S=>S=[b]/\w.h.get b=some o,λa h ⟨h1,h2⟩=>⟨h1,by rw[h b (by rw[h1];exact bH.2 rfl)];exact h2⟩⟩
def ap{α:Type}(E:Enc α)(v:Value)(xs:List α):OA:=
 ⟨λw S=>(xs=[]/\v=.slice none 0 0/\S=[])\/∃b o f cells,v=.slice (some ⟨b,o,some f⟩) xs.length xs.length/\(f=0\/f=E.n)/\S=[b]/\w.h.get b=some (.cells cells)/\cells.length=o+xs.length*E.n/\
  ∀(k:Nat) x,xs[k]? =some x->∃y,(∀(j:Nat) u,(E.pat x y)[j]? =some u->cells[o+k*E.n+j]? =some u)/\∀f∈E.fs x y,f.p w,
  λa h hp=>by
   rcases hp with hp|⟨b,o,f,cells,h1,h2,h3,h4,h5,h6⟩
   ·exact .inl hp
   ·refine .inr ⟨b,o,f,cells,h1,h2,h3,by rw[h b (by rw[h3];exact bH.2 rfl)];exact h4,h5,λk x hk=>?_⟩;obtain⟨y,q1,q2⟩:=h6 k x hk;exact⟨y,q1,λf hf=>f.mono a (q2 f hf)⟩⟩
def fB(w:Wd):List OA->List Nat->Prop
 |[],S=>S=[]
 |A::kl,S=>∃S1 S2,A.p w S1/\fB w kl S2/\S=S1++S2
theorem fB.loc{w w':Wd}(a:w.Le w'):∀{kl:List OA} {S:List Nat},(∀i∈S,w'.h.get i=w.h.get i)->fB w kl S->fB w' kl S
 |[],S,_,h=>h
 |A::kl,S,hs,⟨S1,S2,h1,h2,e⟩=>⟨S1,S2,A.loc a (λi hi=>hs i (by rw[e];exact jP _ hi)) h1,fB.loc a (λi hi=>hs i (by rw[e];exact mJ _ hi)) h2,e⟩
theorem fB.app{w:Wd}:∀{k1 k2:List OA} {S1 S2:List Nat},fB w k1 S1->fB w k2 S2->fB w (k1++k2) (S1++S2)
 |[],k2,S1,S2,h1,h2=>by
  have h1:S1=[]:=h1;subst h1;exact h2
 |A::k1,k2,_,S2,⟨T1,T2,q1,q2,e⟩,h2=>⟨T1,T2++S2,q1,q2.app h2,by rw[e,fE]⟩
inductive ay{α:Type}(A:α):List α->List α->Prop
 |here {l:List α}:ay A (A::l) l
 |there {C:α} {l l':List α} (h:ay A l l'):ay A (C::l) (C::l')
inductive aI{α:Type}:List α->List α->List α->Prop
 |nil {l:List α}:aI [] l l
 |cons {A:α} {k l l' l'':List α} (h:ay A l l') (h2:aI k l' l''):aI (A::k) l l''
theorem ay.app{α:Type}{A:α}{l l':List α}(h:ay A l l'):∀k:List α,ay A (k++l) (k++l')
 |[]=>h
 |_::k=>.there (ay.app h k)
theorem aI.self{α:Type}:∀k r:List α,aI k (k++r) r
 |[],_=>.nil
 |_::k,r=>.cons .here (aI.self k r)
theorem aI.all{α:Type}(k:List α):aI k k []:=by
 have:=aI.self k []
 rwa [gy]at this
theorem aI.there{α:Type}{k l l':List α}(A:α)(h:aI k l l'):aI k (A::l) (A::l'):=by
 induction h with
 |nil=>exact .nil
 |cons h1 _ ih=>exact .cons (.there h1) ih
theorem fB.fV{w:Wd}{A:OA}:∀{kl kl':List OA} {S:List Nat},ay A kl kl'->fB w kl S->∃S',fB w (A::kl') S'/\S.Perm S'
 |_,_,S,.here,h=>⟨S,h,.refl _⟩
 |_,_,_,.there s,⟨S1,S2,h1,h2,e⟩=>by
  obtain⟨S',⟨T1,T2,q1,q2,e'⟩,hp⟩:=fB.fV s h2;subst e e';refine⟨T1++(S1++T2),⟨T1,_,q1,⟨S1,T2,h1,q2,rfl⟩,rfl⟩,?_⟩;have:(S1++S2).Perm (S1++(T1++T2)):=hp.append_left S1;refine this.trans ?_;rw[<- fE,<- fE];exact List.Perm.append_right T2 List.perm_append_comm
theorem fB.jD{w:Wd}:∀{k kl kl':List OA} {S:List Nat},aI k kl kl'->fB w kl S->∃S1 S2,fB w k S1/\fB w kl' S2/\S.Perm (S1++S2)
 |_,_,_,S,.nil,h=>⟨[],S,rfl,h,.refl _⟩
 |_,_,_,S,.cons s r,h=>by
  obtain⟨S',⟨T1,T2,q1,q2,e⟩,hp⟩:=h.fV s;obtain⟨U1,U2,u1,u2,hu⟩:=fB.jD r q2;subst e;exact⟨T1++U1,U2,⟨T1,U1,q1,u1,rfl⟩,u2,hp.trans (by rw[fE];exact hu.append_left T1)⟩
inductive Sub{α:Type}:List α->List α->Prop
 |nil {l:List α}:Sub [] l
 |cons {a:α} {k l:List α} (h:a∈l) (h2:Sub k l):Sub (a::k) l
theorem Sub.mem{α:Type}:∀{k l:List α},Sub k l->∀x∈k,x∈l
 |_,_,.nil,x,hx=>by cases hx
 |_,_,.cons h h2,x,hx=>by
  cases hx with
  |head=>exact h
  |tail _ hx=>exact h2.mem x hx
structure aad(B:List Nat)(h h':IH):Prop where
 next:h.next<=h'.next
 get:∀i,i<h.next->i∉B->h'.get i=h.get i
 low:h.low<=h.next->(∀b∈B,h.low<=b)->h'.low=h.low
structure St(B:List Nat)(w0:Wd)(kl:List OA)(F:List aH)(w:Wd):Prop where
 agree:aad B w0.h w.h
 le:w0.Le w
 fH:∀i,i<w0.h.next->w.z i->w0.z i\/i∈B
 own:∃S,fB w kl S/\S.Nodup/\∀i∈S,(w0.h.next<=i\/i∈B)/\i<w.h.next/\¬w.z i
 facts:∀f∈F,f.p w
section
variable {B:List Nat} {w0 w:Wd} {kl:List OA} {F:List aH}
theorem St.jD{k kl':List OA}(s:aI k kl kl')(h:St B w0 kl F w):St B w0 (k++kl') F w:=by
 obtain⟨S,h1,h2,h3⟩:=h.own;obtain⟨S1,S2,q1,q2,hp⟩:=h1.jD s;exact⟨h.agree,h.le,h.fH,⟨S1++S2,q1.app q2,hp.nodup h2,λi hi=>h3 i (hp.mem_iff.2 hi)⟩,h.facts⟩
theorem St.fV{A:OA}{kl':List OA}(s:ay A kl kl')(h:St B w0 kl F w):St B w0 (A::kl') F w:=h.jD (.cons s .nil)
theorem St.drop{k kl':List OA}(h:St B w0 (k++kl') F w):St B w0 k F w:=by
 obtain⟨S,h1,h2,h3⟩:=h.own;have:∀{k:List OA} {S:List Nat},fB w (k++kl') S->∃S1 S2,fB w k S1/\S=S1++S2:=by
  intro k;induction k with
  |nil=>intro S hS;exact⟨[],S,rfl,rfl⟩
  |cons A k ih=>
   rintro S ⟨T1,T2,q1,q2,e⟩;obtain⟨S1,S2,u1,u2⟩:=ih q2;exact⟨T1++S1,S2,⟨T1,S1,q1,u1,rfl⟩,by rw[e,u2,fE]⟩
 obtain⟨S1,S2,q1,e⟩:=this h1;subst e;exact⟨h.agree,h.le,h.fH,⟨S1,q1,(iN.1 h2).1,λi hi=>h3 i (jP _ hi)⟩,h.facts⟩
theorem St.sub{F':List aH}(s:Sub F' F)(h:St B w0 kl F w):St B w0 kl F' w:=⟨h.agree,h.le,h.fH,h.own,λf hf=>h.facts f (s.mem f hf)⟩
theorem St.add{F':List aH}(h:St B w0 kl F w)(hf:∀f∈F',f.p w):St B w0 kl (F'++F) w:=
 ⟨h.agree,h.le,h.fH,h.own,λf h1=>(dV.1 h1).elim (hf f) (h.facts f)⟩
theorem St.get{b:Nat}{o:dG}(h:St B w0 (pt b o::kl) F w):w.h.get b=some o/\b<w.h.next/\(w0.h.next<=b\/b∈B):=by
 obtain⟨S,⟨S1,S2,⟨e1,q1⟩,_,e⟩,h2,h3⟩:=h.own;have hb:b∈S:=by rw[e,e1];simp
 exact⟨q1,(h3 b hb).2.1,(h3 b hb).1⟩
theorem St.at_{b:Nat}{o:dG}{kl':List OA}(s:ay (pt b o) kl kl')(h:St B w0 kl F w):At w.h b o:=⟨(h.fV s).get.2.1,(h.fV s).get.1⟩
noncomputable def Wd.new(w:Wd)(o:dG):Wd:=⟨w.h.new o,w.z,λi hi=>JD (w.kR i hi)⟩
theorem St.new(h:St B w0 kl F w)(o:dG):St B w0 (pt w.h.next o::kl) F (w.new o):=by
 have hg:∀i,i<w.h.next->(w.h.new o).get i=w.h.get i:=λi hi=>by rw[IH.iW,if_neg (by omega)]
 have hle:w.Le (w.new o):=⟨yT _,λ_ h=>h,λi hi=>hg i (w.kR i hi)⟩
 obtain⟨S,h1,h2,h3⟩:=h.own;refine⟨⟨Nat.le_succ_of_le h.agree.next,λi hi hb=>(hg i (lD hi h.agree.next)).trans (h.agree.get i hi hb),λa b=>h.agree.low a b⟩,h.le.trans hle,h.fH,
  ⟨[w.h.next]++S,⟨[w.h.next],S,⟨rfl,by show(w.h.new o).get _=_;rw[IH.iW,if_pos rfl]⟩,fB.loc hle (λi hi=>hg i (h3 i hi).2.1) h1,rfl⟩,?_,?_⟩,λf hf=>f.mono hle (h.facts f hf)⟩
 ·refine AP.2 ⟨λhm=>?_,h2⟩;have:=(h3 _ hm).2.1;omega
 ·intro i hi;rcases dV.1 hi with hi|hi
  ·rw[bH.1 hi];exact⟨.inl h.agree.next,uV _,λhz=>absurd (w.kR _ hz) (Nat.lt_irrefl _)⟩
  ·exact⟨(h3 i hi).1,JD (h3 i hi).2.1,(h3 i hi).2.2⟩
theorem St.write{b:Nat}{o o':dG}(h:St B w0 (pt b o::kl) F w):St B w0 (pt b o'::kl) F ⟨w.h.set b o',w.z,λi hi=>w.kR i hi⟩:=by
 obtain⟨S,⟨S1,S2,⟨e1,q1⟩,q2,e⟩,h2,h3⟩:=h.own;subst e e1;have hb:=h3 b (by simp);have hn:b∉S2:=λhm=>(AP.1 h2).1 hm;have hg:∀i,i≠b->(w.h.set b o').get i=w.h.get i:=λi hi=>by rw[IH.mQ,if_neg hi]
 have hle:w.Le ⟨w.h.set b o',w.z,λi hi=>w.kR i hi⟩:=⟨bJ _,λ_ h=>h,λi hi=>hg i (λe=>hb.2.2 (e▸hi))⟩
 refine⟨⟨h.agree.next,λi hi hB=>(hg i ?_).trans (h.agree.get i hi hB),λa c=>?_⟩,h.le.trans hle,h.fH,
  ⟨[b]++S2,⟨[b],S2,⟨rfl,by show(w.h.set b o').get b=_;rw[IH.mQ,if_pos rfl]⟩,fB.loc hle (λi hi=>hg i (λe=>hn (e▸hi))) q2,rfl⟩,h2,h3⟩,λf hf=>f.mono hle (h.facts f hf)⟩
 ·rcases hb.1 with q|q
  ·omega
  ·intro e;exact hB (e▸q)
 ·have hl:=h.agree.low a c;show(w.h.set b o').low=_;rw[IH.GD,hl];rcases hb.1 with q|q
  ·omega
  ·have:=c b q;omega
theorem St.move{b:Nat}{o o':dG}{h':IH}(h:St B w0 (pt b o::kl) F w)(m:zA w.h h' b o'):∃w':Wd,w'.h=h'/\St B w0 (pt w.h.next o'::kl) F w'/\w.Le w':=by
 obtain⟨S,⟨S1,S2,⟨e1,q1⟩,q2,e⟩,h2,h3⟩:=h.own;subst e e1;have hb:=h3 b (by simp);have hn:b∉S2:=λhm=>(AP.1 h2).1 hm;let w':Wd:=⟨h',w.z,λi hi=>by rw[m.next];exact JD (w.kR i hi)⟩
 have hle:w.Le w':=⟨by show _<=h'.next;rw[m.next];exact yT _,λ_ h=>h,λi hi=>m.get i (w.kR i hi) (λe=>hb.2.2 (e▸hi))⟩
 refine⟨w',rfl,⟨⟨by show _<=h'.next;rw[m.next];exact Nat.le_succ_of_le h.agree.next,λi hi hB=>(m.get i (lD hi h.agree.next) ?_).trans (h.agree.get i hi hB),λa c=>?_⟩,h.le.trans hle,h.fH,
  ⟨[w.h.next]++S2,⟨[w.h.next],S2,⟨rfl,m.at_.2⟩,fB.loc hle (λi hi=>m.get i (h3 i (by simp[hi])).2.1 (λe=>hn (e▸hi))) q2,rfl⟩,?_,?_⟩,λf hf=>f.mono hle (h.facts f hf)⟩,hle⟩
 ·rcases hb.1 with q|q
  ·omega
  ·intro e;exact hB (e▸q)
 ·have hl:=h.agree.low a c;rw[<- hl];refine m.low ?_;rw[hl];rcases hb.1 with q|q
  ·omega
  ·exact c b q
 ·refine AP.2 ⟨λhm=>?_,(AP.1 h2).2⟩;have:=(h3 _ (cO _ hm)).2.1;omega
 ·intro i hi;have hnx:w'.h.next=w.h.next+1:=m.next
  rcases dV.1 hi with hi|hi
  ·rw[bH.1 hi];exact⟨.inl h.agree.next,by omega,λhz=>absurd (w.kR _ hz) (Nat.lt_irrefl _)⟩
  ·have:=h3 i (by simp[hi]);exact⟨this.1,by omega,this.2.2⟩
theorem St.BB{A A':OA}(hA:∀w S,A.p w S->A'.p w S)(h:St B w0 (A::kl) F w):St B w0 (A'::kl) F w:=by
 obtain⟨S,⟨S1,S2,q1,q2,e⟩,h2,h3⟩:=h.own;exact⟨h.agree,h.le,h.fH,⟨S,⟨S1,S2,hA w S1 q1,q2,e⟩,h2,h3⟩,h.facts⟩
theorem St.xS{A A':OA}(h:St B w0 (A::kl) F w)(hA:∀S,A.p w S->A'.p w S):St B w0 (A'::kl) F w:=by
 obtain⟨S,⟨S1,S2,q1,q2,e⟩,h2,h3⟩:=h.own;exact⟨h.agree,h.le,h.fH,⟨S,⟨S1,S2,hA S1 q1,q2,e⟩,h2,h3⟩,h.facts⟩
theorem St.tail{A:OA}(h:St B w0 (A::kl) F w):St B w0 kl F w:=by
 obtain⟨S,⟨S1,S2,q1,q2,e⟩,h2,h3⟩:=h.own;subst e;exact⟨h.agree,h.le,h.fH,⟨S2,q2,(iN.1 h2).2.1,λi hi=>h3 i (mJ _ hi)⟩,h.facts⟩
def tK(A:OA)(fs:List aH):Prop:=∀(w w':Wd) S,A.p w S->w.Le w'->w'.h=w.h->(∀i∈S,w'.z i)->∀f∈fs,f.p w'
theorem St.freeze{A:OA}{fs:List aH}(hA:tK A fs)(h:St B w0 (A::kl) F w):∃w',w'.h=w.h/\St B w0 kl (fs++F) w':=by
 obtain⟨S,⟨S1,S2,q1,q2,e⟩,h2,h3⟩:=h.own;subst e;let w':Wd:=⟨w.h,λi=>w.z i\/i∈S1,λi hi=>hi.elim (w.kR i) λhi=>(h3 i (jP _ hi)).2.1⟩
 have hle:w.Le w':=⟨bJ _,λi hi=>.inl hi,λ_ _=>rfl⟩
 have hnd:=iN.1 h2;refine⟨w',rfl,h.agree,h.le.trans hle,λi hi hz=>?_,⟨S2,fB.loc hle (λ_ _=>rfl) q2,hnd.2.1,λi hi=>?_⟩,λf hf=>?_⟩
 ·rcases hz with hz|hz
  ·exact h.fH i hi hz
  ·rcases(h3 i (jP _ hz)).1 with q|q
   ·omega
   ·exact .inr q
 ·have:=h3 i (mJ _ hi);refine⟨this.1,this.2.1,λhz=>hz.elim this.2.2 λhm=>?_⟩;exact hnd.2.2 i hm i hi rfl
 ·rcases dV.1 hf with hf|hf
  ·exact hA w w' S1 q1 hle rfl (λi hi=>.inr hi) f hf
  ·exact f.mono hle (h.facts f hf)
theorem gH{α:Type}{E:Enc α}{v:Value}{xs:List α}:tK (ap E v xs) [ah E v xs]:=by
 intro w w' S hp hle hh hz f hf;rw[bH.1 hf];rcases hp with⟨h1,h2,_⟩|⟨b,o,f,cells,h1,h2,h3,h4,h5,h6⟩
 ·exact .inl ⟨h1,none,0,h2,trivial⟩
 ·refine .inr ⟨b,o,f,_,cells,⟨h1,bJ _,h2⟩,⟨hz b (by rw[h3];exact bH.2 rfl),.inl (by rw[hh];exact h4)⟩,λk x hk=>?_⟩;obtain⟨y,q1,q2⟩:=h6 k x hk;exact⟨y,q1,λf hf=>f.mono hle (q2 f hf)⟩
theorem eO{b:Nat}{cs:List Value}:tK (pt b (.cells cs)) [eG b 0 cs]:=by
 intro w w' S ⟨h1,h2⟩ hle hh hz f hf;rw[bH.1 hf];exact⟨cs,⟨hz b (by rw[h1];exact bH.2 rfl),.inl (by rw[hh];exact h2)⟩,λj u hj=>by rw[eT];exact hj⟩
theorem Ej{b f c:Nat}{xs:List Int}(hc:xs.length<=c:=by first|exact bJ _|omega)(hf:f=0\/f=1:=by first|exact .inl rfl|exact .inr rfl):tK (pt b (.cells (xs.map (.int .i64)))) [ah aa (.slice (some ⟨b,0,some f⟩) xs.length c) xs]:=by
 intro w w' S ⟨h1,h2⟩ hle hh hz g hg;rw[bH.1 hg];refine .inr ⟨b,0,f,c,_,⟨rfl,hc,hf⟩,⟨hz b (by rw[h1];exact bH.2 rfl),.inl (by rw[hh];exact h2)⟩,λk x hk=>⟨(),λj u hj=>?_,λf hf=>by cases hf⟩⟩;match j,hj with
 |0,hj=>
  cases hj;simp[aa,hk]
end
end Go.Ideal
namespace Go.Ideal
variable {P:Program}
def R(Q:IH->Prop)(B:List Nat)(w0:Wd)(kl:List OA)(F:List aH):Prop:=∀w,St B w0 kl F w->Q w.h
structure dL(G G':Prop):Prop where
 h:G'->G
theorem dL.refl(G:Prop):dL G G:=⟨id⟩
theorem dL.trans{A B C:Prop}(a:dL A B)(b:dL B C):dL A C:=⟨λc=>a.h (b.h c)⟩
theorem dL.all{X:Type}{A B:X->Prop}(h:∀x,dL (A x) (B x)):dL (∀x,A x) (∀x,B x):=⟨λb x=>(h x).h (b x)⟩
theorem dL.imp{p A B:Prop}(h:dL A B):dL (p->A) (p->B):=⟨λb x=>h.h (b x)⟩
def Pu(P:Program)(ρ:Operand->Value)(op:aB)(v:Value):Prop:=∀h,op.run P ρ h=some (v,h)
inductive EvL(ρ:Operand->Value):List Operand->List Value->Prop
 |nil:EvL ρ [] []
 |cons {x:Operand} {v:Value} {xs:List Operand} {vs:List Value} (h:ρ x=v) (t:EvL ρ xs vs):EvL ρ (x::xs) (v::vs)
theorem EvL.map{ρ:Operand->Value}:∀{xs:List Operand} {vs:List Value},EvL ρ xs vs->xs.map ρ=vs
 |_,_,.nil=>rfl
 |_,_,.cons h t=>by rw[gQ,h,t.map]
section
variable {ρ:Operand->Value}
theorem Em{x:Operand}{v:Value}(hx:ρ x=v):Pu P ρ (.mv x) v:=λh=>by simp only[aB.run,hx]
theorem En{x:Operand}{v:Value}(hx:ρ x=v):Pu P ρ (.jc x) v:=λh=>by simp only[aB.run,hx]
theorem Eo{c x y:Operand}{v:Value}(hc:ρ c=.bool true)(hx:ρ x=v):Pu P ρ (.pick c x y) v:=λh=>by simp only[aB.run,hc,hx,cond]
theorem Ep{c x y:Operand}{v:Value}(hc:ρ c=.bool false)(hx:ρ y=v):Pu P ρ (.pick c x y) v:=λh=>by simp only[aB.run,hc,hx,cond]
theorem Er{x:Operand}{b:Bool}(hx:ρ x=.bool b):Pu P ρ (.un .not x) (.bool !b):=λh=>by simp only[aB.run,hx];rfl
theorem Es{x:Operand}{a:Option Addr}{m c:Nat}(hx:ρ x=.slice a m c):Pu P ρ (.pG x) (.int .i64 (m:Int)):=λh=>by simp only[aB.run,hx,Qw]
theorem Et{n:Nat}:Pu P ρ (.Gt n) (.int .i64 (n:Int)):=λh=>rfl
theorem Eu{x y:Operand}{t:TypeId}{a b:Int}(hx:ρ x=.int .i64 a)(hy:ρ y=.int .i64 b):Pu P ρ (.bin .lss t x y) (.bool (decide (a<b))):=λh=>by
 simp only[aB.run,hx,hy];rw[xN (v:=.bool (decide (a<b)))];simp[ol,pU,<- Int.not_le]
theorem Ew{x y:Operand}{t:TypeId}{a b:Int}(hx:ρ x=.int .i64 a)(hy:ρ y=.int .i64 b):Pu P ρ (.bin .leq t x y) (.bool (decide (a<=b))):=λh=>by
 simp only[aB.run,hx,hy];rw[xN (v:=.bool (decide (a<=b)))];simp[ol,pU]
theorem Ex{x y:Operand}{t:TypeId}{a b:Int}(hx:ρ x=.int .i64 a)(hy:ρ y=.int .i64 b):Pu P ρ (.bin .gtr t x y) (.bool (decide (b<a))):=λh=>by
 simp only[aB.run,hx,hy];rw[xN (v:=.bool (decide (b<a)))];simp[ol,pU,<- Int.not_le]
theorem Ey{x y:Operand}{t:TypeId}{a b:Int}(hx:ρ x=.int .i64 a)(hy:ρ y=.int .i64 b):Pu P ρ (.bin .geq t x y) (.bool (decide (b<=a))):=λh=>by
 simp only[aB.run,hx,hy];rw[xN (v:=.bool (decide (b<=a)))];simp[ol,pU]
theorem Ez{x y:Operand}{t:TypeId}{a b:Int}(hx:ρ x=.int .i64 a)(hy:ρ y=.int .i64 b):Pu P ρ (.bin .eql t x y) (.bool (decide (a=b))):=λh=>by
 simp only[aB.run,hx,hy];rw[xN (v:=.bool (decide (a=b)))];simp[ol,DC];rfl
theorem EA{x y:Operand}{t:TypeId}{a b:Int}(hx:ρ x=.int .i64 a)(hy:ρ y=.int .i64 b):Pu P ρ (.bin .neq t x y) (.bool (decide (a≠b))):=λh=>by
 simp only[aB.run,hx,hy];rw[xN (v:=.bool (decide (a≠b)))];simp[ol,DC];rfl
theorem zF{x y:Operand}{t:TypeId}{a b:Int}(hx:ρ x=.int .i64 a)(hy:ρ y=.int .i64 b)(h1: -9223372036854775808<=a+b)(h2:a+b<9223372036854775808):Pu P ρ (.bin .add t x y) (.int .i64 (a+b)):=λh=>by
 simp only[aB.run,hx,hy];rw[xN (v:=.int .i64 (a+b))];simp only[ol,Pe,Qy h1 h2]
theorem EB{x y:Operand}{t:TypeId}{a b:Int}(hx:ρ x=.int .i64 a)(hy:ρ y=.int .i64 b)(h1: -9223372036854775808<=a - b)(h2:a - b<9223372036854775808):Pu P ρ (.bin .sub t x y) (.int .i64 (a - b)):=λh=>by
 simp only[aB.run,hx,hy];rw[xN (v:=.int .i64 (a - b))];simp only[ol,Pf,Qy h1 h2]
theorem EC{x:Operand}{i:Nat}{vs:List Value}{v:Value}(hx:ρ x=.tuple ⟨vs⟩)(hv:jQ vs i=some v):Pu P ρ (.extract x i) v:=λh=>by simp only[aB.run,hx,hv]
theorem ED{x:Operand}{off b o:Nat}(hx:ρ x=.pointer (some ⟨b,o,none⟩)):Pu P ρ (.fK off x) (.pointer (some ⟨b,o+off,none⟩)):=λh=>by simp only[aB.run,hx];rfl
theorem EE{t:TypeId}{off n:Nat}{x:Operand}{cs:List Value}{v:Value}(hx:ρ x=.agg ⟨cs⟩)(hv:jQ cs off=some v):Pu P ρ (.field t off n false x) v:=λh=>by simp only[aB.run,hx,hv]
theorem EF{t:TypeId}{off n:Nat}{x:Operand}{cs r:List Value}(hx:ρ x=.agg ⟨cs⟩)(hv:ja (jI cs off) n=some r):Pu P ρ (.field t off n true x) (.agg ⟨r⟩):=λh=>by simp only[aB.run,hx,hv]
theorem EG{x:Operand}{t:TypeId}{v:Value}(hx:ρ x=v):Pu P ρ (.iface t x) (.iface t v):=λh=>by simp only[aB.run,hx]
theorem EH{t:TypeId}{zero v:Value}{x:Operand}(hx:ρ x=.iface t v):Pu P ρ (.Gs t zero false x) v:=λh=>by
 simp only[aB.run,hx];show cond (Nat.beq t t) _ _=_;rw[AL];rfl
theorem aae{zero cs:List Value}{parts:List (Nat×Nat×Operand)}(hx:qx ρ zero parts=some cs):Pu P ρ (.build zero parts) (.agg ⟨cs⟩):=λh=>by simp only[aB.run,hx]
theorem EI{x:Operand}{a:Addr}(hx:ρ x=.pointer (some a)):Pu P ρ (.kK x) (.pointer (some a)):=λh=>by simp only[aB.run,hx]
theorem EJ{x:Operand}{f:FuncId}{a b:Array Value}(hx:ρ x=.func (.func f) a b):Pu P ρ (.kK x) (.func (.func f) a b):=λh=>by simp only[aB.run,hx]
theorem aaf{fn:Fn}{first captured:List Operand}{a b:List Value}(h1:EvL ρ first a)(h2:EvL ρ captured b):Pu P ρ (.AZ fn first captured) (.func fn ⟨a⟩ ⟨b⟩):=λh=>by
 simp only[aB.run,rD,h1.map,h2.map]
theorem BC{x i:Operand}{size b o m c:Nat}{f:Option Nat}{k:Int}{kk:IntKind}(hx:ρ x=.slice (some ⟨b,o,f⟩) m c)(hi:ρ i=.int kk k)(h0:0<=k)(h1:k<m):
 Pu P ρ (.lY size x i) (.pointer (some ⟨b,o+k.toNat*size,none⟩)):=λh=>by
 obtain⟨j,rfl⟩:=sG h0;simp only[aB.run,hx,hi];show cond (Nat.blt j m) _ _=_;rw[Lg (by omega)];rfl
theorem EK{x i:Operand}{size b o m c k:Nat}{f:Option Nat}{kk:IntKind}(hx:ρ x=.slice (some ⟨b,o,f⟩) m c)(hi:ρ i=.int kk (.ofNat k))(h1:Nat.blt k m=true):
 Pu P ρ (.lY size x i) (.pointer (some ⟨b,o+k*size,none⟩)):=λh=>by
 simp only[aB.run,hx,hi,h1];rfl
theorem EL{x i:Operand}{m size b o:Nat}{k:Int}{kk:IntKind}(hx:ρ x=.pointer (some ⟨b,o,none⟩))(hi:ρ i=.int kk k)(h0:0<=k)(h1:k<m):
 Pu P ρ (.JL m size x i) (.pointer (some ⟨b,o+k.toNat*size,none⟩)):=λh=>by
 obtain⟨j,rfl⟩:=sG h0;simp only[aB.run,hx,hi];show cond (Nat.blt j m) _ _=_;rw[Lg (by omega)];rfl
end
section
variable {B:List Nat} {w0:Wd} {kl kl':List OA} {F:List aH} {a:aW} {K:KO}
theorem aag{x y:dx}:dL (R (λh=>EV P (.seq x y) a h K) B w0 kl F) (R (λh=>EV P x a h (xM P y K)) B w0 kl F):=⟨λr w s=>ZI (r w s)⟩
theorem aah{id:Nat}{c:dx}:dL (R (λh=>EV P (.block id c) a h K) B w0 kl F) (R (λh=>EV P c a h (vS id K)) B w0 kl F):=⟨λr w s=>ZJ (r w s)⟩
theorem aai{ds:List Tmp}{l:List bT}:dL (R (λh=>EV P (.ops ds l) a h K) B w0 kl F) (R (λh=>aF P ds l a h K) B w0 kl F):=⟨λr w s=>.ops (r w s)⟩
theorem aaj{c:dx}:dL (R (λh=>EV P (.scope c) a h K) B w0 kl F) (R (λh=>EV P c a h K) B w0 kl F):=⟨λr w s=>.scope (r w s)⟩
theorem aak:dL (R (λh=>EV P .skip a h K) B w0 kl F) (R (λh=>K .normal a h) B w0 kl F):=⟨λr w s=>.skip (r w s)⟩
theorem aal{id:Nat}:dL (R (λh=>EV P (.exit id) a h K) B w0 kl F) (R (λh=>K (.exit id) a h) B w0 kl F):=⟨λr w s=>.exit (r w s)⟩
theorem aam:dL (R (λh=>EV P .ret a h K) B w0 kl F) (R (λh=>K .ret a h) B w0 kl F):=⟨λr w s=>.ret (r w s)⟩
theorem aan{ds:List Tmp}:dL (R (λh=>aF P ds [] a h K) B w0 kl F) (R (λh=>K .normal a h) B w0 kl F):=⟨λr w s=>.nil (r w s)⟩
variable {y:dx} {i j m0:Nat} {I:Nat->aW->IH->Prop} {ch:List PanicEntry}
theorem aao:dL (R (λh=>xM P y K .normal a h) B w0 kl F) (R (λh=>EV P y a h K) B w0 kl F):=⟨λr w s=>r w s⟩
theorem aap:dL (R (λh=>xM P y K .ret a h) B w0 kl F) (R (λh=>K .ret a h) B w0 kl F):=⟨λr w s=>r w s⟩
theorem aaq:dL (R (λh=>xM P y K (.exit j) a h) B w0 kl F) (R (λh=>K (.exit j) a h) B w0 kl F):=⟨λr w s=>r w s⟩
theorem aar:dL (R (λh=>xM P y K (.panic ch) a h) B w0 kl F) (R (λh=>K (.panic ch) a h) B w0 kl F):=⟨λr w s=>r w s⟩
theorem aas:dL (R (λh=>vS i K .normal a h) B w0 kl F) (R (λh=>K .normal a h) B w0 kl F):=⟨λr w s=>r w s⟩
theorem aat:dL (R (λh=>vS i K .ret a h) B w0 kl F) (R (λh=>K .ret a h) B w0 kl F):=⟨λr w s=>r w s⟩
theorem aau:dL (R (λh=>vS i K (.panic ch) a h) B w0 kl F) (R (λh=>K (.panic ch) a h) B w0 kl F):=⟨λr w s=>r w s⟩
theorem aav(e:Nat.beq j i=true):dL (R (λh=>vS i K (.exit j) a h) B w0 kl F) (R (λh=>K .normal a h) B w0 kl F):=⟨λr w s=>ZQ e (r w s)⟩
theorem aaw(e:Nat.beq j i=false):dL (R (λh=>vS i K (.exit j) a h) B w0 kl F) (R (λh=>K (.exit j) a h) B w0 kl F):=⟨λr w s=>ZR e (r w s)⟩
theorem aax:dL (R (λh=>tH I m0 K .ret a h) B w0 kl F) (R (λh=>K .ret a h) B w0 kl F):=⟨λr w s=>r w s⟩
theorem aay:dL (R (λh=>tH I m0 K (.exit j) a h) B w0 kl F) (R (λh=>K (.exit j) a h) B w0 kl F):=⟨λr w s=>r w s⟩
theorem aaz:dL (R (λh=>tH I m0 K (.panic ch) a h) B w0 kl F) (R (λh=>K (.panic ch) a h) B w0 kl F):=⟨λr w s=>r w s⟩
end
section
variable {B:List Nat} {w0:Wd} {kl kl':List OA} {F:List aH} {K:KO} {ds:List Tmp} {rest:List bT} {n:Nat} {l:List (Nat×Value)} {D:List Deferred} {pm:Option FrameMode} {ro:Option Nat} {d:Nat} {g:Option (Tmp×Bool)}
theorem aaA{c:Operand}{x y:dx}(hc:ev l c=.bool true):dL (R (λh=>EV P (.cond c x y) (act n l D pm ro) h K) B w0 kl F) (R (λh=>EV P x (act n l D pm ro) h K) B w0 kl F):=
 ⟨λr w s=>Ef true hc (λ_=>r w s) (λe=>by cases e)⟩
theorem aaB{c:Operand}{x y:dx}(hc:ev l c=.bool false):dL (R (λh=>EV P (.cond c x y) (act n l D pm ro) h K) B w0 kl F) (R (λh=>EV P y (act n l D pm ro) h K) B w0 kl F):=
 ⟨λr w s=>Ef false hc (λe=>by cases e) (λ_=>r w s)⟩
theorem aA{c:Operand}{x y:dx}{p:Prop}[Decidable p](hc:ev l c=.bool (decide p))(h1:p->R (λh=>EV P x (act n l D pm ro) h K) B w0 kl F)(h2:¬p->R (λh=>EV P y (act n l D pm ro) h K) B w0 kl F):
 R (λh=>EV P (.cond c x y) (act n l D pm ro) h K) B w0 kl F:=
 λw s=>Ef _ hc (λe=>h1 (gY e) w s) (λe=>h2 (mY e) w s)
theorem eU{c:Operand}{x y:dx}{p:Prop}[Decidable p](hc:ev l c=.bool (!decide p))(h1:¬p->R (λh=>EV P x (act n l D pm ro) h K) B w0 kl F)(h2:p->R (λh=>EV P y (act n l D pm ro) h K) B w0 kl F):
 R (λh=>EV P (.cond c x y) (act n l D pm ro) h K) B w0 kl F:=
 λw s=>Ef _ hc (λe=>h1 (by simpa using e) w s) (λe=>h2 (by simpa using e) w s)
theorem j6{c:Operand}{x y:dx}{b:Bool}(hc:ev l c=.bool b)(h1:b=true->R (λh=>EV P x (act n l D pm ro) h K) B w0 kl F)(h2:b=false->R (λh=>EV P y (act n l D pm ro) h K) B w0 kl F):
 R (λh=>EV P (.cond c x y) (act n l D pm ro) h K) B w0 kl F:=
 λw s=>Ef _ hc (λe=>h1 e w s) (λe=>h2 e w s)
theorem aaC{op:aB}{re:List gZ}(hn:Nat.blt d n=true)(hg:Ld l g=true):dL (R (λh=>aF P ds (⟨⟨some d,g,op⟩,re⟩::rest) (act n l D pm ro) h K) B w0 kl F) (R (λh=>aF P ds rest (act n ((d,ry)::l) D pm ro) h K) B w0 kl F):=
 ⟨λr w s=>ZO hn hg (r w s)⟩
theorem eD{op:aB}{v:Value}(hn:Nat.blt d n=true)(hg:bU l g=true)(hp:Pu P (ev l) op v):dL (R (λh=>aF P ds (⟨⟨some d,g,op⟩,[]⟩::rest) (act n l D pm ro) h K) B w0 kl F) (R (λh=>aF P ds rest (act n ((d,v)::l) D pm ro) h K) B w0 kl F):=
 ⟨λr w s=>j4 hn hg (hp w.h) (r w s)⟩
abbrev ptr'(b:Nat):Value:=.pointer (some ⟨b,0,none⟩)
theorem aaD{cs:List Value}{t:TypeId}(hn:Nat.blt d n=true)(hg:bU l g=true):dL (R (λh=>aF P ds (⟨⟨some d,g,.new cs t⟩,[]⟩::rest) (act n l D pm ro) h K) B w0 kl F)
 (∀b,R (λh=>aF P ds rest (act n ((d,.pointer (some ⟨b,0,none⟩))::l) D pm ro) h K) B w0 (pt b (.cells cs)::kl) F):=
 ⟨λr w s=>j4 hn hg (h':=w.h.new (.cells cs)) (by simp only[aB.run,aB.alloc,qy]) (r w.h.next (w.new _) (s.new _))⟩
theorem aaE{x:Operand}{t:TypeId}{cs:List Value}(hn:Nat.blt d n=true)(hg:bU l g=true)(hx:cellsOf (ev l x)=some cs):dL (R (λh=>aF P ds (⟨⟨some d,g,.box x t⟩,[]⟩::rest) (act n l D pm ro) h K) B w0 kl F)
 (∀b,R (λh=>aF P ds rest (act n ((d,.pointer (some ⟨b,0,none⟩))::l) D pm ro) h K) B w0 (pt b (.cells cs)::kl) F):=
 ⟨λr w s=>j4 hn hg (h':=w.h.new (.cells cs)) (by simp only[aB.run,aB.alloc,qy,hx]) (r w.h.next (w.new _) (s.new _))⟩
theorem aaF{t:TypeId}{len:Nat}{zero cs:List Value}{parts:List (Nat×Nat×Operand)}(hn:Nat.blt d n=true)(hg:bU l g=true)(hx:qx (ev l) zero parts=some cs):
 dL (R (λh=>aF P ds (⟨⟨some d,g,.vo t len zero parts⟩,[]⟩::rest) (act n l D pm ro) h K) B w0 kl F)
 (∀b,R (λh=>aF P ds rest (act n ((d,.slice (some ⟨b,0,some 0⟩) len len)::l) D pm ro) h K) B w0 (pt b (.cells cs)::kl) F):=
 ⟨λr w s=>j4 hn hg (h':=w.h.new (.cells cs)) (by simp only[aB.run,aB.alloc,qy,hx,vB]) (r w.h.next (w.new _) (s.new _))⟩
theorem aaG{e:TypeId}{size bytes m:Nat}{zero:List Value}{x y:Operand}(hn:Nat.blt d n=true)(hg:bU l g=true)(hx:ev l x=.int .i64 (m:Int))(hy:ev l y=.int .i64 (m:Int))
 (hm:m*bytes<=1073741824/\m*size<=1073741824/\m<=1073741824):dL (R (λh=>aF P ds (⟨⟨some d,g,.y9 e size bytes zero x y⟩,[]⟩::rest) (act n l D pm ro) h K) B w0 kl F)
 (∀b,R (λh=>aF P ds rest (act n ((d,.slice (some ⟨b,0,some 0⟩) m m)::l) D pm ro) h K) B w0 (pt b (.cells (zeros zero m))::kl) F):=by
 refine⟨λr w s=>?_⟩;have hle:∀{a b:Nat},a<=b->Nat.ble a b=true:=λh=>by rw[pu];exact h
 refine j4 hn hg (h':=w.h.new (.cells (zeros zero m))) ?_ (r w.h.next (w.new _) (s.new _));simp only[aB.run,aB.alloc,hx,hy];show qy (cond (Nat.ble m m&&Nat.ble (m*bytes) small&&Nat.ble (m*size) small&&Nat.ble m small) _ _) w.h=_;rw[hle (bJ m),hle (show m*bytes<=small from hm.1),hle (show m*size<=small from hm.2.1),hle (show m<=small from hm.2.2)];rfl
theorem aaH{x:Operand}{b o:Nat}{cs:List Value}{v:Value}(hn:Nat.blt d n=true)(hg:bU l g=true)(hx:ev l x=.pointer (some ⟨b,o,none⟩))(hk:ay (pt b (.cells cs)) kl kl')(hv:jQ cs o=some v):
 dL (R (λh=>aF P ds (⟨⟨some d,g,.gK x⟩,[]⟩::rest) (act n l D pm ro) h K) B w0 kl F) (R (λh=>aF P ds rest (act n ((d,v)::l) D pm ro) h K) B w0 kl F):=
 ⟨λr w s=>Ho hn hg hx (s.at_ hk) (by rw[<- rE];exact hv) (r w s)⟩
theorem aaI{x:Operand}{b o m:Nat}{cs c:List Value}(hn:Nat.blt d n=true)(hg:bU l g=true)(hx:ev l x=.pointer (some ⟨b,o,none⟩))(hk:ay (pt b (.cells cs)) kl kl')(hv:ja (jI cs o) m=some c):
 dL (R (λh=>aF P ds (⟨⟨some d,g,.pF m x⟩,[]⟩::rest) (act n l D pm ro) h K) B w0 kl F) (R (λh=>aF P ds rest (act n ((d,.agg ⟨c⟩)::l) D pm ro) h K) B w0 kl F):=
 ⟨λr w s=>ZP hn hg hx (s.at_ hk) hv (r w s)⟩
theorem Hy{w:Wd}{b o j:Nat}{cs:List Value}{v:Value}(h:(eG b o cs).p w)(hv:jQ cs j=some v):w.h.nL b (o+j)=some v:=by
 obtain⟨cells,h1,h2⟩:=h;rw[h1.cells.nL];exact h2 j v (by rw[<- rE];exact hv)
theorem Hz{w:Wd}{b o j m:Nat}{cs c:List Value}(h:(eG b o cs).p w)(hv:ja (jI cs j) m=some c):w.h.gU b (o+j) m=some c:=by
 obtain⟨cells,h1,h2⟩:=h;rw[h1.cells.gU];rw[ny,nu]at hv⊢;split at hv
 ·rename_i hm;cases hv;rw[mK]at hm;have key:∀i,i<m->cells[o+j+i]? =cs[j+i]?:=λi hi=>by
   have hlt:j+i<cs.length:=by omega
   rw[og,cB hlt];exact h2 (j+i) _ (cB hlt)
  have hlen:m=0\/o+j+m<=cells.length:=by
   rcases CW m with e|e
   ·exact .inl e
   ·right;have:=key (m - 1) (by omega);rw[cB (show j+(m - 1)<cs.length by omega)]at this;have:=(bO.1 this).1;omega
  rw[if_pos (by rw[mK];omega)];congr 1;apply jW;intro i;rw[pE,pE];by_cases hi:i<m
  ·rw[if_pos hi,if_pos hi,mX,mX];exact key i hi
  ·rw[if_neg hi,if_neg hi]
 ·cases hv
theorem aaJ{x:Operand}{b o:Nat}{cs:List Value}{v:Value}(hn:Nat.blt d n=true)(hg:bU l g=true)(hx:ev l x=.pointer (some ⟨b,o,none⟩))(hk:eG b o cs∈F)(hv:jQ cs 0=some v):
 dL (R (λh=>aF P ds (⟨⟨some d,g,.gK x⟩,[]⟩::rest) (act n l D pm ro) h K) B w0 kl F) (R (λh=>aF P ds rest (act n ((d,v)::l) D pm ro) h K) B w0 kl F):=
 ⟨λr w s=>j4 hn hg (by simp only[aB.run,hx,show w.h.nL b o=some v from Hy (j:=0) (s.facts _ hk) hv]) (r w s)⟩
theorem QS{x:Operand}{b o j:Nat}{cs:List Value}{v:Value}(hn:Nat.blt d n=true)(hg:bU l g=true)(hx:ev l x=.pointer (some ⟨b,o+j,none⟩))(hk:eG b o cs∈F)(hv:jQ cs j=some v):
 dL (R (λh=>aF P ds (⟨⟨some d,g,.gK x⟩,[]⟩::rest) (act n l D pm ro) h K) B w0 kl F) (R (λh=>aF P ds rest (act n ((d,v)::l) D pm ro) h K) B w0 kl F):=
 ⟨λr w s=>j4 hn hg (by simp only[aB.run,hx,Hy (s.facts _ hk) hv]) (r w s)⟩
theorem aaK{x:Operand}{b o m:Nat}{cs c:List Value}(hn:Nat.blt d n=true)(hg:bU l g=true)(hx:ev l x=.pointer (some ⟨b,o,none⟩))(hk:eG b o cs∈F)(hv:ja cs m=some c):
 dL (R (λh=>aF P ds (⟨⟨some d,g,.pF m x⟩,[]⟩::rest) (act n l D pm ro) h K) B w0 kl F) (R (λh=>aF P ds rest (act n ((d,.agg ⟨c⟩)::l) D pm ro) h K) B w0 kl F):=
 ⟨λr w s=>j4 hn hg (by simp only[aB.run,hx,show w.h.gU b o m=some c from Hz (j:=0) (s.facts _ hk) (by rw[nu];exact hv)]) (r w s)⟩
theorem Lv{x:Operand}{b o j m:Nat}{cs c:List Value}(hn:Nat.blt d n=true)(hg:bU l g=true)(hx:ev l x=.pointer (some ⟨b,o+j,none⟩))(hk:eG b o cs∈F)(hv:ja (jI cs j) m=some c):
 dL (R (λh=>aF P ds (⟨⟨some d,g,.pF m x⟩,[]⟩::rest) (act n l D pm ro) h K) B w0 kl F) (R (λh=>aF P ds rest (act n ((d,.agg ⟨c⟩)::l) D pm ro) h K) B w0 kl F):=
 ⟨λr w s=>j4 hn hg (by simp only[aB.run,hx,Hz (s.facts _ hk) hv]) (r w s)⟩
theorem aaL{x y:Operand}{b o m:Nat}{cs vs c:List Value}(hg:bU l g=true)(hx:ev l x=.pointer (some ⟨b,o,none⟩))(hy:cellsOf (ev l y)=some vs)(hm:Nat.beq (iE vs) m=true)
 (hk:ay (pt b (.cells cs)) kl kl') (hv:jb cs o vs=some c):
 dL (R (λh=>aF P ds (⟨⟨none,g,.store m x y⟩,[]⟩::rest) (act n l D pm ro) h K) B w0 kl F) (R (λh=>aF P ds rest (act n l D pm ro) h K) B w0 (pt b (.cells c)::kl') F):=
 ⟨λr w s=>Lf hg (v:=dN) (h':=w.h.set b (.cells c)) (by simp only[aB.run,hx,hy,hm];simp only[IH.storeAt,(s.at_ hk).2,hv];rfl) (r _ ((s.fV hk).write))⟩
theorem aaM{x y:Operand}{b o:Nat}{cs:List Value}{v:Value}(hg:bU l g=true)(hx:ev l x=.pointer (some ⟨b,o,none⟩))(hy:ev l y=v)(hv:cellsOf v=some [v])
 (hk:ay (pt b (.cells cs)) kl kl') (ho:o<cs.length):
 dL (R (λh=>aF P ds (⟨⟨none,g,.store 1 x y⟩,[]⟩::rest) (act n l D pm ro) h K) B w0 kl F) (R (λh=>aF P ds rest (act n l D pm ro) h K) B w0 (pt b (.cells (cs.set o v))::kl') F):=
 ⟨λr w s=>Lf hg (v:=dN) (h':=w.h.set b (.cells (cs.set o v))) (by
  simp only[aB.run,hx,hy,hv];show cond (Nat.beq 1 1) _ _=_;simp only[IH.storeAt,(s.at_ hk).2,Qz cs o v ho];rfl) (r _ ((s.fV hk).write))⟩
theorem aaN{x:Operand}{b o:Nat}{cs:List Value}{v:Value}(hn:Nat.blt d n=true)(hg:bU l g=true)(hx:ev l x=.pointer (some ⟨b,o,none⟩))(hk:ay (pt b (.cells cs)) kl kl')(hv:cs[o]? =some v):
 dL (R (λh=>aF P ds (⟨⟨some d,g,.gK x⟩,[]⟩::rest) (act n l D pm ro) h K) B w0 kl F) (R (λh=>aF P ds rest (act n ((d,v)::l) D pm ro) h K) B w0 kl F):=
 ⟨λr w s=>Ho hn hg hx (s.at_ hk) hv (r w s)⟩
theorem QT{α:Type}{E:Enc α}{v:Value}{xs:List α}{w:Wd}(h:(ah E v xs).p w):∃a c,v=.slice a xs.length c:=by
 rcases h with⟨rfl,a,c,rfl,_⟩|⟨i,o,f,c,cs,⟨h1,_⟩,_⟩
 ·exact⟨a,c,rfl⟩
 ·exact⟨_,c,h1⟩
theorem aaO{α:Type}{E:Enc α}{v:Value}{xs:List α}{w:Wd}(h:(ah E v xs).p w){k:Nat}(hk:k<xs.length):
 ∃i o f c x y,v=.slice (some ⟨i,o,f⟩) xs.length c/\xs[k]? =some x/\(eG i (o+k*E.n) (E.pat x y)).p w/\∀f∈E.fs x y,f.p w:=by
 rcases h with⟨rfl,a,c,rfl,_⟩|⟨i,o,f,c,cs,⟨h1,_⟩,h2,h3⟩
 ·simp at hk
 ·obtain⟨y,q1,q2⟩:=h3 k xs[k] (cB hk);exact⟨i,o,some f,c,xs[k],y,h1,cB hk,⟨cs,h2,q1⟩,q2⟩
theorem aaP{α:Type}{E:Enc α}{x:Operand}{v:Value}{xs:List α}(hn:Nat.blt d n=true)(hg:bU l g=true)(hx:ev l x=v)(hf:ah E v xs∈F):
 dL (R (λh=>aF P ds (⟨⟨some d,g,.pG x⟩,[]⟩::rest) (act n l D pm ro) h K) B w0 kl F) (R (λh=>aF P ds rest (act n ((d,.int .i64 (xs.length:Int))::l) D pm ro) h K) B w0 kl F):=
 ⟨λr w s=>by
  obtain⟨a,c,e⟩:=QT (s.facts _ hf);exact Qx hn hg (hx.trans e) (r w s)⟩
theorem Lx{α:Type}{E:Enc α}{v:Value}{xs:List α}{w:Wd}{S:List Nat}(h:(ap E v xs).p w S):∃a,v=.slice a xs.length xs.length:=by
 rcases h with⟨rfl,rfl,_⟩|⟨b,o,f,cells,h1,_⟩
 ·exact⟨none,rfl⟩
 ·exact⟨_,h1⟩
theorem aaQ{α:Type}{E:Enc α}{x:Operand}{v:Value}{xs:List α}(hn:Nat.blt d n=true)(hg:bU l g=true)(hx:ev l x=v)(hk:ay (ap E v xs) kl kl'):
 dL (R (λh=>aF P ds (⟨⟨some d,g,.pG x⟩,[]⟩::rest) (act n l D pm ro) h K) B w0 kl F) (R (λh=>aF P ds rest (act n ((d,.int .i64 (xs.length:Int))::l) D pm ro) h K) B w0 kl F):=
 ⟨λr w s=>by
  obtain⟨S,⟨S1,S2,q,_⟩,_⟩:=(s.fV hk).own;obtain⟨a,e⟩:=Lx q;exact Qx hn hg (hx.trans e) (r w s)⟩
theorem LB{α:Type}{E:Enc α}{x i:Operand}{v:Value}{xs:List α}{size:Nat}{k:Int}{kk:IntKind}(hn:Nat.blt d n=true)(hg:bU l g=true)(hx:ev l x=v)(hi:ev l i=.int kk k)(hf:ah E v xs∈F)
 (hs:E.n=size) (h0:0<=k) (h1:k<xs.length):
 dL (R (λh=>aF P ds (⟨⟨some d,g,.lY size x i⟩,[]⟩::rest) (act n l D pm ro) h K) B w0 kl F)
  (∀b o z y,xs[k.toNat]? =some z->R (λh=>aF P ds rest (act n ((d,.pointer (some ⟨b,o,none⟩))::l) D pm ro) h K) B w0 kl (eG b o (E.pat z y)::(E.fs z y++F))):=by
 refine⟨λr w s=>?_⟩;obtain⟨b,o,f,c,z,y,rfl,h2,h3,h4⟩:=aaO (s.facts _ hf) (k:=k.toNat) (by omega);refine Lh hn hg hx hi h0 h1 (r b _ z y h2 w ?_);rw[<- hs];exact(s.add (F':=eG b (o+k.toNat*E.n) (E.pat z y)::E.fs z y) (λf hf=>by
  rcases dF.1 hf with rfl|hf
  ·exact h3
  ·exact h4 f hf))
theorem QU{x i:Operand}{v:Value}{xs:List Int}{k:Int}{kk:IntKind}(hn:Nat.blt d n=true)(hg:bU l g=true)(hx:ev l x=v)(hi:ev l i=.int kk k)(hf:ah aa v xs∈F)(h0:0<=k)(h1:k<xs.length):
 dL (R (λh=>aF P ds (⟨⟨some d,g,.lY 1 x i⟩,[]⟩::rest) (act n l D pm ro) h K) B w0 kl F)
  (∀b o z,xs[k.toNat]? =some z->R (λh=>aF P ds rest (act n ((d,.pointer (some ⟨b,o,none⟩))::l) D pm ro) h K) B w0 kl (eG b o [.int .i64 z]::F)):=
 ⟨λr=>(LB hn hg hx hi hf rfl h0 h1).h λb o z y hz=>r b o z hz⟩
theorem QV{x i:Operand}{v:Value}{xs:List Bool}{k:Int}{kk:IntKind}(hn:Nat.blt d n=true)(hg:bU l g=true)(hx:ev l x=v)(hi:ev l i=.int kk k)(hf:ah QR v xs∈F)(h0:0<=k)(h1:k<xs.length):
 dL (R (λh=>aF P ds (⟨⟨some d,g,.lY 1 x i⟩,[]⟩::rest) (act n l D pm ro) h K) B w0 kl F)
  (∀b o z,xs[k.toNat]? =some z->R (λh=>aF P ds rest (act n ((d,.pointer (some ⟨b,o,none⟩))::l) D pm ro) h K) B w0 kl (eG b o [.bool z]::F)):=
 ⟨λr=>(LB hn hg hx hi hf rfl h0 h1).h λb o z y hz=>r b o z hz⟩
theorem gI{α:Type}(E:Enc α){Q:IH->Prop}(h:R Q B w0 (ap E (.slice none 0 0) []::kl) F):R Q B w0 kl F:=λw s=>by
 obtain⟨S,h1,h2,h3⟩:=s.own;exact h w ⟨s.agree,s.le,s.fH,⟨S,⟨[],S,.inl ⟨rfl,rfl,rfl⟩,h1,rfl⟩,h2,h3⟩,s.facts⟩
theorem aaR{A:OA}{fs:List aH}{Q:IH->Prop}(hA:tK A fs)(hk:ay A kl kl')(h:R Q B w0 kl' (fs++F)):R Q B w0 kl F:=λw s=>by
 obtain⟨w',e,s'⟩:=(s.fV hk).freeze hA;rw[<- e];exact h w' s'
theorem _root_.Go.Ideal.St.fresh{w:Wd}{o:dG}{h':IH}(s:St B w0 kl F w)(ag:Agree w.h h')(at_:At h' w.h.next o)(hn:h'.next=w.h.next+1):∃w':Wd,w'.h=h'/\St B w0 (pt w.h.next o::kl) F w':=by
 have hg:∀i,i<w.h.next->h'.get i=w.h.get i:=ag.get
 let w':Wd:=⟨h',w.z,λi hi=>by rw[hn];exact JD (w.kR i hi)⟩
 have hle:w.Le w':=⟨by show _<=h'.next;omega,λ_ h=>h,λi hi=>hg i (w.kR i hi)⟩
 obtain⟨S,h1,h2,h3⟩:=s.own;have hnx:w'.h.next=w.h.next+1:=hn
 refine⟨w',rfl,⟨by have:=s.agree.next;omega,λi hi hb=>(hg i (lD hi s.agree.next)).trans (s.agree.get i hi hb),λa b=>?_⟩,s.le.trans hle,s.fH,
  ⟨[w.h.next]++S,⟨[w.h.next],S,⟨rfl,at_.2⟩,fB.loc hle (λi hi=>hg i (h3 i hi).2.1) h1,rfl⟩,?_,?_⟩,λf hf=>f.mono hle (s.facts f hf)⟩
 ·have hl:=s.agree.low a b;have:=s.agree.next
  show h'.low=_;rw[ag.low (by omega),hl]
 ·refine AP.2 ⟨λhm=>?_,h2⟩;have:=(h3 _ hm).2.1;omega
 ·intro i hi;rcases dV.1 hi with hi|hi
  ·rw[bH.1 hi];exact⟨.inl s.agree.next,by omega,λhz=>absurd (w.kR _ hz) (Nat.lt_irrefl _)⟩
  ·exact⟨(h3 i hi).1,by have:=(h3 i hi).2.1;omega,(h3 i hi).2.2⟩
theorem aaS{α:Type}{E:Enc α}{e:TypeId}{size bytes b':Nat}{s x:Operand}{v:Value}{xs:List α}{a:α}{y:E.Y}{cs:List Value}{k1 k2:List OA}(hn:Nat.blt d n=true)(hg:bU l g=true)
 (hs:ev l s=v) (hx:ev l x=.slice (some ⟨b',0,some 0⟩) 1 1) (hk:ay (ap E v xs) kl k1) (hc:ay (pt b' (.cells cs)) k1 k2) (hp:cs=E.pat a y) (hF:Sub (E.fs a y) F) (hz:E.n=size)
 (hm:(xs.length+1)*bytes<=1073741824/\(xs.length+1)*size<=1073741824/\xs.length+1<=1073741824):
 dL (R (λh=>aF P ds (⟨⟨some d,g,.append e size bytes s x⟩,[]⟩::rest) (act n l D pm ro) h K) B w0 kl F)
  (∀v',R (λh=>aF P ds rest (act n ((d,v')::l) D pm ro) h K) B w0 (ap E v' (xs++[a])::k2) F):=by
 refine⟨λr w st=>?_⟩;subst hp hz;have hlen:=E.len a y;have st2:St B w0 (ap E v xs::pt b' (.cells (E.pat a y))::k2) F w:=st.jD (.cons hk (.cons hc .nil));have hat:At w.h b' (.cells (E.pat a y)):=st2.at_ (.there .here);have l7:St B w0 (ap E v xs::k2) F w:=(st2.fV (.there .here)).tail;have hfs:∀f∈E.fs a y,f.p w:=λf hf=>st.facts f (hF.mem f hf);have hread:w.h.gU b' 0 (1*E.n)=some (E.pat a y):=by
  rw[hat.c.gU,nu,ny,yZ,uX,if_pos (by omega),<- hlen,bK]
 have hx1:ng (ev l x)=some (0+1):=by rw[hx];rfl
 have hx2:lZ E.n (0+1) (ev l x) w.h=some (E.pat a y):=by rw[hx];exact hread
 -- what lies there afterwards
 have put:∀(w':Wd) (c:Nat) (f:Nat) (cells:List Value),cells.length=xs.length*E.n->(∀(k:Nat) z,xs[k]? =some z->∃y,(∀(j:Nat) u,(E.pat z y)[j]? =some u->cells[k*E.n+j]? =some u)/\∀f∈E.fs z y,f.p w')->(∀f∈E.fs a y,f.p w')->
  (f=0\/f=E.n)->∀S,(pt c (.cells (cells++E.pat a y))).p w' S->(ap E (.slice (some ⟨c,0,some f⟩) (xs.length+1) (xs.length+1)) (xs++[a])).p w' S:=by
  intro w' c f cells h1 h2 h3 h4 S hp;refine .inr ⟨c,0,f,_,by rw[fA];rfl,h4,hp.1,hp.2,by rw[fA,fA,h1,hlen,uY,pz,yZ,eT],λk z hk=>?_⟩;by_cases hlt:k<xs.length
  ·rw[kJ hlt]at hk;obtain⟨y',q1,q2⟩:=h2 k z hk;refine⟨y',λj u hj=>?_,q2⟩;rw[eT];have:=q1 j u hj;rw[kJ (bO.1 this).1];exact this
  ·rw[lX (by omega)]at hk;have hk0:k=xs.length:=by
    have:=(bO.1 hk).1;simp at this;omega
   subst hk0;simp at hk;subst hk;refine⟨y,λj u hj=>?_,h3⟩;rw[eT,lX (by omega),h1,JE];exact hj
 obtain⟨S,⟨S1,S2,q,q2,e1⟩,hnd,hown⟩:=l7.own;rcases q with⟨rfl,rfl,rfl⟩|⟨b,o,f,cells,rfl,hf,rfl,hb,hcl,hel⟩
 ·refine QB (c:=0) hn hg hs hx1 hx2 (by simpa using hm) λh' ag vU hnx=>?_;obtain⟨w',rfl,iX⟩:=l7.tail.fresh ag vU hnx;refine r _ w' (iX.xS λS hp=>?_);have hle:∀f∈E.fs a y,f.p w':=λf hf=>iX.facts f (hF.mem f hf);exact put w' _ E.n [] (by simp) (λk z hk=>by cases hk) hle (.inr rfl) S hp
 ·have xU:St B w0 (pt b (.cells cells)::k2) F w:=⟨l7.agree,l7.le,l7.fH,⟨S,⟨_,S2,⟨rfl,hb⟩,q2,e1⟩,hnd,hown⟩,l7.facts⟩
  have EM:At w.h b (.cells cells):=xU.at_ .here;refine Li (old:=cells.drop o) (xs:=E.pat a y) hn hg hs hx1 hx2 ?_ (hf.elim (λe=>.inl (by rw[e])) λe=>.inr (by rw[e])) hm λh' mv=>?_
  ·have hdl:(cells.drop o).length=xs.length*E.n:=by rw[mK];omega
   rw[EM.c.gU,nu,ny,if_pos (by omega),<- hdl,bK]
  obtain⟨w',rfl,iX,xV⟩:=xU.move mv;refine r _ w' (iX.xS λS hp=>?_);have hle:∀f∈E.fs a y,f.p w':=λf hf=>iX.facts f (hF.mem f hf);refine put w' _ E.n (cells.drop o) (by rw[mK];omega) (λk z hk=>?_) hle (.inr rfl) S hp;obtain⟨y',u1,u2⟩:=hel k z hk;exact⟨y',λj u hj=>by rw[mX,<- og];exact u1 j u hj,λf hf=>f.mono xV (u2 f hf)⟩
theorem aaT{x i:Operand}{v:Value}{xs:List Int}{z:Int}{k:Nat}{kk:IntKind}{d2:Nat}{g2:Option (Tmp×Bool)}(hn:Nat.blt d n=true)(hg:bU l g=true)(hn2:Nat.blt d2 n=true)(hg2:∀u,bU ((d,u)::l) g2=true)(hx:ev l x=v)(hi:ev l i=.int kk (k:Int))
 (hk:ay (ap aa v xs) kl kl') (hz:xs[k]? =some z):
 dL (R (λh=>aF P ds (⟨⟨some d,g,.lY 1 x i⟩,[]⟩::⟨⟨some d2,g2,.gK (.tmp d)⟩,[]⟩::rest) (act n l D pm ro) h K) B w0 kl F)
  (∀b o,R (λh=>aF P ds rest (act n ((d2,.int .i64 z)::(d,.pointer (some ⟨b,o,none⟩))::l) D pm ro) h K) B w0 kl F):=by
 refine⟨λr w s=>?_⟩;have s1:=s.fV hk;obtain⟨S,⟨S1,S2,p,p2,e⟩,h2,h3⟩:=s1.own;have hlt:=(bO.1 hz).1;rcases p with⟨h,_⟩|⟨b,o,f,cells,e1,hf,e2,hb,hcl,hel⟩
 ·rw[h]at hz;cases hz
 ·subst e1;obtain⟨y,u1,_⟩:=hel k z hz;have hc:cells[o+(k:Int).toNat*1]? =some (.int .i64 z):=by
   have:=u1 0 (.int .i64 z) rfl;simpa[aa]using this
  refine Lh hn hg hx hi (by omega) (by omega) ?_;have hbS:b∈S:=by rw[e,e2];simp
  exact Ho hn2 (hg2 _) (by show lk _ d=_;simp[lk]) ⟨(h3 b hbS).2.1,hb⟩ hc (r _ _ w s)
end
end Go.Ideal
namespace Go.Ideal
variable {P:Program} {ρ:Operand->Value}
theorem qG{t:TypeId}{d:TypeDesc}(ht:P.underlying t=some d):dX P (underlying t)=some d:=by
 unfold underlying;rw[gV];show(some P).bind _=_;simp only[Option.bind,ht];rfl
theorem zG{op:BinOp}{t:TypeId}{x y:Operand}{a b:Value}(ha:∀c,a≠.agg c)(hn:a≠.nilIface):dX P (eqGuard op t x y a b)=some ():=by
 cases a with
 |nilIface=>exact absurd rfl hn
 |agg c=>exact absurd rfl (ha c)
 |_=>cases op<;>rfl
theorem QW{t:TypeId}{x y:Operand}{a b:Bool}(ht:P.underlying t=some .bool):kL P .eql t x y (.bool a) (.bool b)=some (.bool (a==b))/\kL P .neq t x y (.bool a) (.bool b)=some (.bool (a !=b)):=by
 have he:dX P (Op.equal t (.bool a) (.bool b))=some (a==b):=by
  show dX P (Op.equalIn (9999+1) t (.bool a) (.bool b))=_;unfold Op.equalIn;rw[gV,qG ht];rfl
 have h1:jR P (do eqGuard .eql t x y (.bool a) (.bool b);binOp .eql t (.bool a) (.bool b))=some (.bool (a==b)):=by
  unfold jR;rw[gV,zG (by intro c e;cases e) (by intro e;cases e)];simp only[iQ,binOp];rw[gV,he];rfl
 have h2:jR P (do eqGuard .neq t x y (.bool a) (.bool b);binOp .neq t (.bool a) (.bool b))=some (.bool (a !=b)):=by
  unfold jR;rw[gV,zG (by intro c e;cases e) (by intro e;cases e)];simp only[iQ,binOp];rw[gV,he];rfl
 exact⟨h1,h2⟩
theorem EN{x y:Operand}{t:TypeId}{a b:Bool}(hx:ρ x=.bool a)(hy:ρ y=.bool b)(ht:P.underlying t=some .bool):Pu P ρ (.bin .eql t x y) (.bool (a==b)):=λh=>by
 simp only[aB.run,hx,hy,(QW ht).1]
theorem EO{x y:Operand}{t:TypeId}{a b:Bool}(hx:ρ x=.bool a)(hy:ρ y=.bool b)(ht:P.underlying t=some .bool):Pu P ρ (.bin .neq t x y) (.bool (a !=b)):=λh=>by
 simp only[aB.run,hx,hy,(QW ht).2]
theorem QX{op:BinOp}{t:TypeId}{x y:Operand}{a b:ByteArray}{v:Value}(hv:dX P (Op.stringOp op a b)=some v)(hf:bQ v=true):kL P op t x y (.string a) (.string b)=some v:=by
 have h1:jR P (do eqGuard op t x y (.string a) (.string b);binOp op t (.string a) (.string b))=some v:=by
  unfold jR;rw[gV,zG (by intro c e;cases e) (by intro e;cases e)];have hb:binOp op t (.string a) (.string b)=Op.stringOp op a b:=by cases op<;>rfl
  simp only[iQ,hb,hv,hf,cond]
 exact h1
theorem EP{x y:Operand}{t:TypeId}{a b:ByteArray}(hx:ρ x=.string a)(hy:ρ y=.string b):Pu P ρ (.bin .eql t x y) (.bool (a.toList==b.toList)):=λh=>by
 simp only[aB.run,hx,hy,QX (op:=.eql) (v:=.bool (a.toList==b.toList)) rfl rfl]
theorem EQ{x y:Operand}{t:TypeId}{a b:ByteArray}(hx:ρ x=.string a)(hy:ρ y=.string b):Pu P ρ (.bin .neq t x y) (.bool (!(a.toList==b.toList))):=λh=>by
 simp only[aB.run,hx,hy,QX (op:=.neq) (v:=.bool (!(a.toList==b.toList))) rfl rfl]
theorem ER{op:BinOp}{t:TypeId}{x y:Operand}{a b:Int}{v:Value}(hq:ol op .i64 a b=none)(hv:dX P (binOp op t (.int .i64 a) (.int .i64 b))=some v)(hf:bQ v=true):kL P op t x y (.int .i64 a) (.int .i64 b)=some v:=by
 have h1:jR P (do eqGuard op t x y (.int .i64 a) (.int .i64 b);binOp op t (.int .i64 a) (.int .i64 b))=some v:=by
  unfold jR;rw[gV,zG (by intro c e;cases e) (by intro e;cases e)];simp only[iQ,hv,hf,cond]
 unfold kL;simp only[pI,cond,hq,bQ,C9];exact h1
theorem wrap64{m:Int}(h1: -9223372036854775808<=m)(h2:m<9223372036854775808):IntKind.i64.wrap m=m:=IntWalk.i64_in m ⟨h1,by omega⟩
theorem ES{x y:Operand}{t:TypeId}{a b:Int}(hx:ρ x=.int .i64 a)(hy:ρ y=.int .i64 b)(h1: -9223372036854775808<=a*b)(h2:a*b<9223372036854775808):Pu P ρ (.bin .mul t x y) (.int .i64 (a*b)):=λh=>by
 simp only[aB.run,hx,hy];rw[ER (op:=.mul) (v:=.int .i64 (a*b)) rfl (by
  show dX P (Op.intArith .mul .i64 a b)=_;show some (Value.int .i64 (IntKind.i64.wrap (a*b)))=_;rw[wrap64 h1 h2]) rfl]
theorem HV{x y:Operand}{t:TypeId}{a b:Int}(hx:ρ x=.int .i64 a)(hy:ρ y=.int .i64 b)(hb:b≠0)(h1: -9223372036854775808<=a.tdiv b)(h2:a.tdiv b<9223372036854775808):Pu P ρ (.bin .quo t x y) (.int .i64 (a.tdiv b)):=λh=>by
 simp only[aB.run,hx,hy];rw[ER (op:=.quo) (v:=.int .i64 (a.tdiv b)) rfl (by
  show dX P (Op.intDiv .quo .i64 a b)=_;unfold Op.intDiv;rw[if_neg hb];show some (Value.int .i64 (IntKind.i64.wrap (a.tdiv b)))=_;rw[wrap64 h1 h2]) rfl]
theorem LC{x y:Operand}{t:TypeId}{a b:Int}(hx:ρ x=.int .i64 a)(hy:ρ y=.int .i64 b)(hb:b≠0):Pu P ρ (.bin .rem t x y) (.int .i64 (a.tmod b)):=λh=>by
 simp only[aB.run,hx,hy];rw[ER (op:=.rem) (v:=.int .i64 (a.tmod b)) rfl (by
  show dX P (Op.intDiv .rem .i64 a b)=_;unfold Op.intDiv;rw[if_neg hb];rfl) rfl]
theorem ET{x i:Operand}{size b o m c k:Nat}{f:Option Nat}{kk:IntKind}(hx:ρ x=.slice (some ⟨b,o,f⟩) m c)(hi:ρ i=.int kk (k:Int))(h1:k<m):
 Pu P ρ (.lY size x i) (.pointer (some ⟨b,o+k*size,none⟩)):=BC (k:=(k:Int)) hx hi (by omega) (by omega)
end Go.Ideal
namespace Go.Ideal
variable {P:Program}
def Left{Y:Type}(B:List Nat)(w0:Wd)(val:Y->Value)(kl':Y->List OA)(fs:Y->List aH)(pr:Y->Prop):KR:=λr pm h'=>
 pm=none/\∃(w':Wd) (y:Y),w'.h=h'/\St B w0 (kl' y) (fs y) w'/\r=.ok (val y)/\pr y
def bi{Y:Type}(P:Program)(fn:Fn)(args cap:List Value)(kl:List OA)(F:List aH)(val:Y->Value)(kl':Y->List OA)(fs:Y->List aH)(pr:Y->Prop):Prop:=
 ∀(B:List Nat) (w:Wd),St B w kl F w->CALL P ⟨fn,args,cap,none⟩ w.h (Left B w val kl' fs pr)
def oP:Nat->List Value->List (Nat×Value)->List (Nat×Value)
 |_,[],l=>l
 |i,v::vs,l=>oP (i+1) vs ((i,v)::l)
theorem QY:∀(args:List Value) (i:Nat) (l:List (Nat×Value)),vD args i (gW l)=gW (oP i args l)
 |[],i,l=>rfl
 |v::vs,i,l=>by
  show vD vs (i+1) (gW ((i,v)::l))=_;rw[QY vs];rfl
theorem LD(n:Nat)(args:List Value)(pm:Option FrameMode):zg n args pm=act (qz n (iE args)) (oP 0 args []) [] pm none:=by
 show aW.mk _ (vD args 0 (gW [])) _ _ _=_;rw[QY];rfl
theorem aaU{Y:Type}{f:FuncId}{args cap:List Value}{kl:List OA}{F:List aH}{val:Y->Value}{kl':Y->List OA}{fs:Y->List aH}{pr:Y->Prop}(cf:gN)(hF:(nN P pQ pR).F f=some cf)
 (hb:∀B w0,R (λh=>EV P cf.body (act (qz cf.ntmps (iE (args++cap))) (oP 0 (args++cap) []) [] none none) h (Bw cf (Left B w0 val kl' fs pr))) B w0 kl F):bi P (.func f) args cap kl F val kl' fs pr:=by
 intro B w s;obtain⟨fn,h1,h2⟩:=(xL P pQ pR (λf q h v h' hm=>by cases hm)).fn f cf hF;refine ZK fn h1 cf h2 ?_;rw[LD];exact hb B w w s
section
variable {B:List Nat} {w0:Wd} {kl kl' bq:List OA} {F:List aH} {K:KO} {ds:List Tmp} {rest:List bT} {n:Nat} {l:List (Nat×Value)} {D:List Deferred} {pm:Option FrameMode} {ro:Option Nat} {d:Nat} {g:Option (Tmp×Bool)}
theorem St.call{w w':Wd}{k1 k1' bq:List OA}{F1 F':List aH}{S1 S2:List Nat}(s:St B w0 kl F w)(hp:∃S:List Nat,S.Perm (S1++S2)/\S.Nodup/\∀i∈S,(w0.h.next<=i\/i∈B)/\i<w.h.next/\¬w.z i)
 (h2:fB w bq S2) (c:St S1 w k1' F' w'):St B w0 (k1'++bq) (F'++F) w':=by
 obtain⟨S,hperm,aaV,hall⟩:=hp;have hnd:=hperm.nodup aaV;have hall:∀i∈S1++S2,(w0.h.next<=i\/i∈B)/\i<w.h.next/\¬w.z i:=λi hi=>hall i (hperm.mem_iff.2 hi)
 have hd:=iN.1 hnd;obtain⟨S',c1,c2,c3⟩:=c.own;have hsame:∀i∈S2,w'.h.get i=w.h.get i:=λi hi=>c.agree.get i (hall i (mJ _ hi)).2.1 (λhm=>hd.2.2 i hm i hi rfl);refine⟨⟨lF s.agree.next c.agree.next,λi hi hB=>?_,λa b=>?_⟩,s.le.trans c.le,λi hi hz=>?_,⟨S'++S2,c1.app (fB.loc c.le hsame h2),?_,?_⟩,λf hf=>?_⟩
 ·rw[<- s.agree.get i hi hB];refine c.agree.get i (lD hi s.agree.next) (λhm=>?_);rcases(hall i (jP _ hm)).1 with q|q
  ·omega
  ·exact hB q
 ·have hl:=s.agree.low a b;rw[c.agree.low (by rw[hl];exact lF a s.agree.next) (λi hi=>?_),hl];rw[hl];rcases(hall i (jP _ hi)).1 with q|q
  ·omega
  ·exact b i q
 ·rcases c.fH i (lD hi s.agree.next) hz with q|q
  ·exact s.fH i hi q
  ·rcases(hall i (jP _ q)).1 with u|u
   ·omega
   ·exact .inr u
 ·refine iN.2 ⟨c2,hd.2.1,λa ha b hb e=>?_⟩;subst e;rcases(c3 a ha).1 with q|q
  ·have:=(hall a (mJ _ hb)).2.1;omega
  ·exact hd.2.2 a q a hb rfl
 ·intro i hi;rcases dV.1 hi with hi|hi
  ·refine⟨?_,(c3 i hi).2⟩;rcases(c3 i hi).1 with q|q
   ·exact .inl (lF s.agree.next q)
   ·exact(hall i (jP _ q)).1
  ·have q:=hall i (mJ _ hi);refine⟨q.1,lD q.2.1 c.agree.next,λhz=>?_⟩;rcases c.fH i q.2.1 hz with u|u
   ·exact q.2.2 u
   ·exact hd.2.2 i u i hi rfl
 ·rcases dV.1 hf with hf|hf
  ·exact c.facts f hf
  ·exact f.mono c.le (s.facts f hf)
def Same(P:Program)(re:List gZ)(ρ:Operand->Value)(l:List (Nat×Value))(B:List Nat)(w0:Wd)(kl:List OA)(F:List aH):Prop:=
 ∀w,St B w0 kl F w->∀r∈re,∃u h2,r.op.run P ρ w.h=some (u,h2)/\∀d',r.dst=some d'->lk l d'=u
theorem zH{ρ:Operand->Value}:Same P [] ρ l B w0 kl F:=λw s r hr=>by cases hr
theorem zI{re:List gZ}{x:Operand}{b o:Nat}{cs:List Value}{v:Value}(hx:ev l x=.pointer (some ⟨b,o,none⟩))(hk:ay (pt b (.cells cs)) kl kl')(hv:jQ cs o=some v)(hd:lk l d=v)
 (t:Same P re (ev l) l B w0 kl F):Same P (⟨some d,g,.gK x⟩::re) (ev l) l B w0 kl F:=λw s r hr=>by
 rcases dF.1 hr with rfl|hr
 ·have hc:w.h.nL b o=some v:=by rw[(s.at_ hk).c.nL,<- rE];exact hv
  exact⟨v,w.h,by simp only[aB.run,hx,hc],λd' e=>by cases e;exact hd⟩
 ·exact t w s r hr
theorem BD{re:List gZ}{x:Operand}{b o:Nat}{cs:List Value}{v:Value}(hx:ev l x=.pointer (some ⟨b,o,none⟩))(hk:eG b o cs∈F)(hv:jQ cs 0=some v)(hd:lk l d=v)
 (t:Same P re (ev l) l B w0 kl F):Same P (⟨some d,g,.gK x⟩::re) (ev l) l B w0 kl F:=λw s r hr=>by
 rcases dF.1 hr with rfl|hr
 ·exact⟨v,w.h,by simp only[aB.run,hx,show w.h.nL b o=some v from Hy (j:=0) (s.facts _ hk) hv],λd' e=>by cases e;exact hd⟩
 ·exact t w s r hr
theorem BF{re:List gZ}{x:Operand}{b o j:Nat}{cs:List Value}{v:Value}(hx:ev l x=.pointer (some ⟨b,o+j,none⟩))(hk:eG b o cs∈F)(hv:jQ cs j=some v)(hd:lk l d=v)
 (t:Same P re (ev l) l B w0 kl F):Same P (⟨some d,g,.gK x⟩::re) (ev l) l B w0 kl F:=λw s r hr=>by
 rcases dF.1 hr with rfl|hr
 ·exact⟨v,w.h,by simp only[aB.run,hx,Hy (s.facts _ hk) hv],λd' e=>by cases e;exact hd⟩
 ·exact t w s r hr
theorem BG{re:List gZ}{x:Operand}{b o m:Nat}{cs c:List Value}(hx:ev l x=.pointer (some ⟨b,o,none⟩))(hk:ay (pt b (.cells cs)) kl kl')(hv:ja (jI cs o) m=some c)(hd:lk l d=.agg ⟨c⟩)
 (t:Same P re (ev l) l B w0 kl F):Same P (⟨some d,g,.pF m x⟩::re) (ev l) l B w0 kl F:=λw s r hr=>by
 rcases dF.1 hr with rfl|hr
 ·have hc:w.h.gU b o m=some c:=by rw[(s.at_ hk).c.gU];exact hv
  exact⟨.agg ⟨c⟩,w.h,by simp only[aB.run,hx,hc],λd' e=>by cases e;exact hd⟩
 ·exact t w s r hr
theorem BH{re:List gZ}{x:Operand}{b o m:Nat}{cs c:List Value}(hx:ev l x=.pointer (some ⟨b,o,none⟩))(hk:eG b o cs∈F)(hv:ja cs m=some c)(hd:lk l d=.agg ⟨c⟩)
 (t:Same P re (ev l) l B w0 kl F):Same P (⟨some d,g,.pF m x⟩::re) (ev l) l B w0 kl F:=λw s r hr=>by
 rcases dF.1 hr with rfl|hr
 ·exact⟨.agg ⟨c⟩,w.h,by simp only[aB.run,hx,show w.h.gU b o m=some c from Hz (j:=0) (s.facts _ hk) (by rw[nu];exact hv)],λd' e=>by cases e;exact hd⟩
 ·exact t w s r hr
theorem BI{re:List gZ}{x:Operand}{b o j m:Nat}{cs c:List Value}(hx:ev l x=.pointer (some ⟨b,o+j,none⟩))(hk:eG b o cs∈F)(hv:ja (jI cs j) m=some c)(hd:lk l d=.agg ⟨c⟩)
 (t:Same P re (ev l) l B w0 kl F):Same P (⟨some d,g,.pF m x⟩::re) (ev l) l B w0 kl F:=λw s r hr=>by
 rcases dF.1 hr with rfl|hr
 ·exact⟨.agg ⟨c⟩,w.h,by simp only[aB.run,hx,Hz (s.facts _ hk) hv],λd' e=>by cases e;exact hd⟩
 ·exact t w s r hr
theorem LF{re:List gZ}{op:aB}{v:Value}(hp:Pu P (ev l) op v)(hd:lk l d=v)(t:Same P re (ev l) l B w0 kl F):Same P (⟨some d,g,op⟩::re) (ev l) l B w0 kl F:=λw s r hr=>by
 rcases dF.1 hr with rfl|hr
 ·exact⟨v,w.h,hp w.h,λd' e=>by cases e;exact hd⟩
 ·exact t w s r hr
theorem aaW{x y:Operand}{b o m:Nat}{cs vs c:List Value}{v:Value}{re:List gZ}(hg:bU l g=true)(hx:ev l x=.pointer (some ⟨b,o,none⟩))(hw:ev l y=v)(hy:cellsOf v=some vs)(hm:Nat.beq (iE vs) m=true)
 (hk:ay (pt b (.cells cs)) kl kl') (hv:jb cs o vs=some c) (hs:Same P re (ev l) l B w0 (pt b (.cells c)::kl') F):
 dL (R (λh=>aF P ds (⟨⟨none,g,.store m x y⟩,re⟩::rest) (act n l D pm ro) h K) B w0 kl F) (R (λh=>aF P ds rest (act n l D pm ro) h K) B w0 (pt b (.cells c)::kl') F):=
 ⟨λr w s=>by
  subst hw;have s':=(s.fV hk).write (o':=.cells c);refine .kN (uB hg) dN (w.h.set b (.cells c)) (by rw[mU];simp only[aB.run,hx,hy,hm];simp only[IH.storeAt,(s.at_ hk).2,hv];rfl) (λq hq _=>?_) (r _ s');obtain⟨u,h2,e1,e2⟩:=hs _ s' q hq;exact⟨u,h2,by show q.op.run P (act n l D pm ro).eval _=_;rw[mU];exact e1,λd' hd=>by rw[<- e2 d' hd];exact tC _ _⟩⟩
theorem aaX{op:aB}{v:Value}{re:List gZ}(hn:Nat.blt d n=true)(hg:bU l g=true)(hp:Pu P (ev l) op v)(hs:Same P re (ev ((d,v)::l)) ((d,v)::l) B w0 kl F):
 dL (R (λh=>aF P ds (⟨⟨some d,g,op⟩,re⟩::rest) (act n l D pm ro) h K) B w0 kl F) (R (λh=>aF P ds rest (act n ((d,v)::l) D pm ro) h K) B w0 kl F):=
 ⟨λr w s=>by
  refine .kN (uB hg) v w.h (by rw[mU];exact hp w.h) (λq hq _=>?_) (by rw[oO hn];exact r w s);obtain⟨u,h2,e1,e2⟩:=hs w s q hq;rw[oO hn];exact⟨u,h2,by rw[mU];exact e1,λd' hd=>by rw[<- e2 d' hd];exact tC _ _⟩⟩
theorem aaY{Y:Type}{f:Operand}{xs:List Operand}{re:List gZ}{fn:Fn}{first captured vs as:List Value}{k1:List OA}{F1:List aH}{val:Y->Value}{k1':Y->List OA}{fs:Y->List aH}{pr:Y->Prop}
 (hc:bi P fn as captured k1 F1 val k1' fs pr) (hn:Nat.blt d n=true) (hg:bU l g=true) (hf:ev l f=.func fn ⟨first⟩ ⟨captured⟩) (hx:EvL (ev l) xs vs) (ha:first++vs=as)
 (hk:aI k1 kl bq) (hF:Sub F1 F)
 (hs:∀y,pr y->Same P re (ev ((d,val y)::l)) ((d,val y)::l) B w0 (k1' y++bq) (fs y++F))
 (next:∀y,pr y->R (λh=>aF P ds rest (act n ((d,val y)::l) D pm ro) h K) B w0 (k1' y++bq) (fs y++F)):
 R (λh=>aF P ds (⟨⟨some d,g,.call f xs⟩,re⟩::rest) (act n l D pm ro) h K) B w0 kl F:=by
 intro w s;obtain⟨S,h1,h2,h3⟩:=s.own;obtain⟨S1,S2,q1,q2,hp⟩:=h1.jD hk;have hsub:∀i∈S1,i∈S:=λi hi=>hp.mem_iff.2 (jP _ hi);have s1:St S1 w k1 F1 w:=⟨⟨bJ _,λ_ _ _=>rfl,λ_ _=>rfl⟩,Wd.Le.refl w,λi _ hz=>.inl hz,⟨S1,q1,(iN.1 (hp.nodup h2)).1,λi hi=>⟨.inr hi,(h3 i (hsub i hi)).2⟩⟩,λf hf=>s.facts f (hF.mem f hf)⟩
 have hcall:=hc S1 w s1;subst ha;rw[<- hx.map]at hcall;have back:∀(w':Wd) (y:Y),St S1 w (k1' y) (fs y) w'->St B w0 (k1' y++bq) (fs y++F) w':=λw' y c=>s.call (k1:=k1) (F1:=F1) ⟨S,hp,h2,h3⟩ q2 c;refine s_call hn hg fn hf _ hcall ?_ ?_ ?_ ?_
 ·rintro v h' ⟨_,w',y,rfl,c,hv,hpr⟩;injection hv with hv;subst hv;exact hs y hpr w' (back w' y c)
 ·rintro v h' ⟨_,w',y,rfl,c,hv,hpr⟩;injection hv with hv;subst hv;exact next y hpr w' (back w' y c)
 ·rintro ch h' ⟨_,w',y,rfl,c,hv,hpr⟩;cases hv
 ·rintro r p h' ⟨e,_⟩;exact e
inductive RS(l:List (Nat×Value))(kl:List OA):List pK->List Value->Prop
 |nil:RS l kl [] []
 |tmp {t:Tmp} {rs:List pK} {v:Value} {vs:List Value} (h:lk l t=v) (r:RS l kl rs vs):RS l kl (.tmp t::rs) (v::vs)
 |cell1 {t:Tmp} {rs:List pK} {v:Value} {vs cs:List Value} {b o:Nat} {kl':List OA} (h:lk l t=.pointer (some ⟨b,o,none⟩)) (hk:ay (pt b (.cells cs)) kl kl') (hv:jQ cs o=some v) (r:RS l kl rs vs):RS l kl (.cell1 t::rs) (v::vs)
 |pM {n:Nat} {t:Tmp} {rs:List pK} {vs cs c:List Value} {b o:Nat} {kl':List OA} (h:lk l t=.pointer (some ⟨b,o,none⟩)) (hk:ay (pt b (.cells cs)) kl kl') (hv:ja (jI cs o) n=some c) (r:RS l kl rs vs):
   RS l kl (.pM n t::rs) (.agg ⟨c⟩::vs)
theorem RS.all{w:Wd}(s:St B w0 kl F w):∀{rs:List pK} {vs:List Value},RS l kl rs vs->vE (gW l) w.h rs=some vs
 |_,_,.nil=>rfl
 |_,_,.tmp (t:=t) (rs:=rs) (v:=v) (vs:=vs) h r=>by
  have ih:=RS.all s r;show(match rC (gW l) w.h (.tmp t),vE (gW l) w.h rs with|some v,some vs=>some (v::vs)|_,_=>none)=_;rw[ih];simp only[rC,tC,h]
 |_,_,.cell1 (t:=t) (rs:=rs) (v:=v) (vs:=vs) h hk hv r=>by
  have ih:=RS.all s r;show(match rC (gW l) w.h (.cell1 t),vE (gW l) w.h rs with|some v,some vs=>some (v::vs)|_,_=>none)=_;rw[ih];simp only[rC,tC,h,(s.at_ hk).2,hv]
 |_,_,.pM (n:=n) (t:=t) (rs:=rs) (vs:=vs) (c:=c) h hk hv r=>by
  have ih:=RS.all s r;show(match rC (gW l) w.h (.pM n t),vE (gW l) w.h rs with|some v,some vs=>some (v::vs)|_,_=>none)=_;rw[ih];simp only[rC,tC,h,IH.oh,(s.at_ hk).2,hv]
def qH(vs:List Value):Value:=
 match vs with
 |[v]=>v
 |vs=>.tuple ⟨vs⟩
theorem QZ{Y:Type}{o:Out}{cf:gN}{vs:List Value}{val:Y->Value}{k1:Y->List OA}{fs:Y->List aH}{pr:Y->Prop}(y:Y)(hr:RS l kl cf.results vs)(hv:qH vs=val y)(hp:pr y)(hk:aI (k1 y) kl bq)(hF:Sub (fs y) F)
 (ho:o=.normal\/o=.ret):R (λh=>Bw cf (Left B w0 val k1 fs pr) o (act n l [] none ro) h) B w0 kl F:=by
 intro w s;have h1:pO cf.results (gW l) w.h=some (val y):=by
  unfold pO;rw[hr.all s];rw[<- hv];match vs with
  |[]=>rfl
  |[v]=>rfl
  |_::_::_=>rfl
 have h2:Left B w0 val k1 fs pr (.ok (val y)) none w.h:=⟨rfl,w,y,rfl,((s.jD hk).drop).sub hF,rfl,hp⟩
 rcases ho with rfl|rfl
 ·exact⟨val y,h1,rfl,h2⟩
 ·exact⟨val y,h1,rfl,h2⟩
inductive jT{α:Type}(F0:List α):List α->Prop
 |here:jT F0 F0
 |cons {a:α} {F:List α} (h:jT F0 F):jT F0 (a::F)
 |app {G F:List α} (h:jT F0 F):jT F0 (G++F)
theorem jT.mem{α:Type}{F0:List α}:∀{F:List α},jT F0 F->∀f∈F0,f∈F
 |_,.here,f,hf=>hf
 |_,.cons h,f,hf=>cO _ (h.mem f hf)
 |_,.app h,f,hf=>mJ _ (h.mem f hf)
inductive nS:List (Nat×Value)->List (Nat×Value)->List (Nat×Value)->Prop
 |nil {ks:List (Nat×Value)}:nS [] ks []
 |drop {k:Nat} {v:Value} {l ks r:List (Nat×Value)} (h:(ks.any λp=>Nat.beq p.1 k)=true) (t:nS l ks r):nS ((k,v)::l) ks r
 |keep {k:Nat} {v:Value} {l ks r:List (Nat×Value)} (h:(ks.any λp=>Nat.beq p.1 k)=false) (t:nS l ((k,v)::ks) r):nS ((k,v)::l) ks ((k,v)::r)
def LI{X:Type}(n:Nat)(D:List Deferred)(pm:Option FrameMode)(ro:Option Nat)(B:List Nat)(w0:Wd)(m:X->Nat)(L:X->List (Nat×Value))(KL:X->List OA)(FF:X->List aH)(inv:X->Prop)
 (l0:List (Nat×Value)) (bq:List OA) (F0:List aH):Nat->aW->IH->Prop:=λr a h=>
 ∃(x:X) (w:Wd),r=m x/\a=act n (L x++l0) D pm ro/\w.h=h/\St B w0 (KL x++bq) (FF x++F0) w/\inv x
theorem aaZ{X:Type}{c:dx}(m:X->Nat)(L:X->List (Nat×Value))(KL:X->List OA)(FF:X->List aH)(inv:X->Prop)(x0:X)(hi:inv x0)(l0:List (Nat×Value))(hl:sub (L x0++l0) l)(hk:aI (KL x0) kl bq)(hF:Sub (FF x0) F)
 (body:∀x,inv x->R (λh=>EV P c (act n (L x++l0) D pm ro) h (tH (LI n D pm ro B w0 m L KL FF inv l0 bq F) (m x) K)) B w0 (KL x++bq) (FF x++F)):
 R (λh=>EV P (.loop c) (act n l D pm ro) h K) B w0 kl F:=by
 intro w s;refine K9 (Hf hl) ?_;refine Qr (LI n D pm ro B w0 m L KL FF inv l0 bq F) ?_ (m x0) _ _ ⟨x0,w,rfl,rfl,rfl,(s.jD hk).add (λf hf=>s.facts f (hF.mem f hf)),hi⟩;rintro r a h ⟨x,w',rfl,rfl,rfl,s',hx⟩;exact body x hx w' s'
theorem aa0{X:Type}{m:X->Nat}{L:X->List (Nat×Value)}{KL:X->List OA}{FF:X->List aH}{inv:X->Prop}{l0:List (Nat×Value)}{dM:List OA}{F0:List aH}{m0:Nat}(x:X)(hm:m x<m0)(hi:inv x)(hl:sub (L x++l0) l)
 (hk:aI (KL x++bq) kl dM) (hF:Sub (FF x) F) (vV:jT F0 F):R (λh=>tH (LI n D pm ro B w0 m L KL FF inv l0 bq F0) m0 K .normal (act n l D pm ro) h) B w0 kl F:=by
 intro w s;refine QA (m x) hm hl ⟨x,w,rfl,rfl,rfl,?_,hi⟩;have s':=(s.jD hk).drop;exact⟨s'.agree,s'.le,s'.fH,s'.own,λf hf=>(dV.1 hf).elim (λhf=>s.facts f (hF.mem f hf)) (λhf=>s.facts f (vV.mem f hf))⟩
end
