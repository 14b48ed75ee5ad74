/-
  Part IdealJX.
-/
import Derived.Test.YtoilpafpgndilaaGreatIdealHX
set_option linter.all false
namespace Go.Ideal
variable {P:Program}
structure Wd where
 h:IH
 z:Nat->Prop
 nJ:∀i,z i->i<h.next
structure Wd.Le(w w':Wd):Prop where
 next:w.h.next<=w'.h.next
 z:∀i,w.z i->w'.z i
 get:∀i,w.z i->w'.h.get i=w.h.get i
theorem Wd.Le.refl(w:Wd):w.Le w:=⟨bT _,λ_ h=>h,λ_ _=>rfl⟩
theorem Wd.Le.trans{w w' w'':Wd}(a:w.Le w')(b:w'.Le w''):w.Le w'':=
 ⟨pQ a.next b.next,λi h=>b.z i (a.z i h),λi h=>(b.get i (a.z i h)).trans (a.get i h)⟩
structure aO where
 p:Wd->Prop
 mono:∀{w w':Wd},w.Le w'->p w->p w'
def Fz(w:Wd)(b:Nat)(cs:List Value):Prop:=w.z b/\(w.h.get b=some (.cells cs)\/w.h.get b=some (.jl cs))
theorem Fz.mono{w w':Wd}(a:w.Le w'){b:Nat}{cs:List Value}(h:Fz w b cs):Fz w' b cs:=⟨a.z b h.1,by rw[a.get b h.1];exact h.2⟩
theorem Fz.cells{w:Wd}{b:Nat}{cs:List Value}(h:Fz w b cs):Cells w.h b cs:=⟨w.nJ b h.1,h.2⟩
def gY(b o:Nat)(cs:List Value):aO:=
 ⟨λw=>∃cells,Fz w b cells/\∀(j:Nat) u,cs[j]? =some u->cells[o+j]? =some u,λa ⟨cells,h1,h2⟩=>⟨cells,h1.mono a,h2⟩⟩
structure Enc(α:Type) where
 n:Nat
 Y:Type
 pat:α->Y->List Value
 fs:α->Y->List aO
 len:∀a y,(pat a y).length=n
def Mw(n:Nat):Option Addr->Prop
 |none=>True
 |some ⟨_,_,some f⟩=>f=0\/f=n
 |some ⟨_,_,none⟩=>False
def ai{α:Type}(E:Enc α)(v:Value)(xs:List α):aO:=
 ⟨λw=>(xs=[]/\∃a c,v=.slice a 0 c/\Mw E.n a)\/∃i o f c cells,(v=.slice (some ⟨i,o,some f⟩) xs.length c/\xs.length<=c/\(f=0\/f=E.n))/\Fz w i cells/\
  ∀(k:Nat) x,xs[k]? =some x->∃y,(∀(j:Nat) u,(E.pat x y)[j]? =some u->cells[o+k*E.n+j]? =some u)/\∀f∈E.fs x y,f.p w,
  λa h=>by
   rcases h with h|⟨i,o,f,c,cells,h1,h2,h3⟩
   ·exact .inl h
   ·refine .inr ⟨i,o,f,c,cells,h1,h2.mono a,λk x hk=>?_⟩;obtain⟨y,q1,q2⟩:=h3 k x hk;exact⟨y,q1,λf hf=>f.mono a (q2 f hf)⟩⟩
def ae:Enc Int:=⟨1,Unit,λx _=>[.int .i64 x],λ_ _=>[],λ_ _=>rfl⟩
def R8:Enc Bool:=⟨1,Unit,λx _=>[.bool x],λ_ _=>[],λ_ _=>rfl⟩
def bC:Enc ByteArray:=⟨1,Unit,λx _=>[.string x],λ_ _=>[],λ_ _=>rfl⟩
def ak{α:Type}(E:Enc α):Enc (List α):=⟨1,Value,λ_ v=>[v],λxs v=>[ai E v xs],λ_ _=>rfl⟩
structure OA where
 p:Wd->List Nat->Prop
 loc:∀{w w':Wd} {S:List Nat},w.Le w'->(∀i∈S,w'.h.get i=w.h.get i)->p w S->p w' S
def pt(b:Nat)(o:dN):OA:=⟨λw S=>S=[b]/\w.h.get b=some o,λa h ⟨h1,h2⟩=>⟨h1,by rw[h b (by rw[h1];exact bM.2 rfl)];exact h2⟩⟩
def ap{α:Type}(E:Enc α)(v:Value)(xs:List α):OA:=
 ⟨λw S=>(xs=[]/\v=.slice none 0 0/\S=[])\/∃b o f cells,v=.slice (some ⟨b,o,some f⟩) xs.length xs.length/\(f=0\/f=E.n)/\S=[b]/\w.h.get b=some (.cells cells)/\cells.length=o+xs.length*E.n/\
  ∀(k:Nat) x,xs[k]? =some x->∃y,(∀(j:Nat) u,(E.pat x y)[j]? =some u->cells[o+k*E.n+j]? =some u)/\∀f∈E.fs x y,f.p w,
  λa h hp=>by
   rcases hp with hp|⟨b,o,f,cells,h1,h2,h3,h4,h5,h6⟩
   ·exact .inl hp
   ·refine .inr ⟨b,o,f,cells,h1,h2,h3,by rw[h b (by rw[h3];exact bM.2 rfl)];exact h4,h5,λk x hk=>?_⟩;obtain⟨y,q1,q2⟩:=h6 k x hk;exact⟨y,q1,λf hf=>f.mono a (q2 f hf)⟩⟩
def fI(w:Wd):List OA->List Nat->Prop
 |[],S=>S=[]
 |A::kl,S=>∃S1 S2,A.p w S1/\fI w kl S2/\S=S1++S2
theorem fI.loc{w w':Wd}(a:w.Le w'):∀{kl:List OA} {S:List Nat},(∀i∈S,w'.h.get i=w.h.get i)->fI w kl S->fI w' kl S
 |[],S,_,h=>h
 |A::kl,S,hs,⟨S1,S2,h1,h2,e⟩=>⟨S1,S2,A.loc a (λi hi=>hs i (by rw[e];exact je _ hi)) h1,fI.loc a (λi hi=>hs i (by rw[e];exact nA _ hi)) h2,e⟩
theorem fI.app{w:Wd}:∀{k1 k2:List OA} {S1 S2:List Nat},fI w k1 S1->fI w k2 S2->fI w (k1++k2) (S1++S2)
 |[],k2,S1,S2,h1,h2=>by
  have h1:S1=[]:=h1;subst h1;exact h2
 |A::k1,k2,_,S2,⟨T1,T2,q1,q2,e⟩,h2=>⟨T1,T2++S2,q1,q2.app h2,by rw[e,List.append_assoc]⟩
inductive az{α:Type}(A:α):List α->List α->Prop
 |here {l:List α}:az A (A::l) l
 |there {C:α} {l l':List α} (h:az A l l'):az A (C::l) (C::l')
inductive aI{α:Type}:List α->List α->List α->Prop
 |nil {l:List α}:aI [] l l
 |cons {A:α} {k l l' l'':List α} (h:az A l l') (h2:aI k l' l''):aI (A::k) l l''
theorem az.app{α:Type}{A:α}{l l':List α}(h:az A l l'):∀k:List α,az A (k++l) (k++l')
 |[]=>h
 |_::k=>.there (az.app h k)
theorem aI.self{α:Type}:∀k r:List α,aI k (k++r) r
 |[],_=>.nil
 |_::k,r=>.cons .here (aI.self k r)
theorem aI.all{α:Type}(k:List α):aI k k []:=by
 have:=aI.self k []
 rwa [gU]at this
theorem aI.there{α:Type}{k l l':List α}(A:α)(h:aI k l l'):aI k (A::l) (A::l'):=by
 induction h with
 |nil=>exact .nil
 |cons h1 _ ih=>exact .cons (.there h1) ih
theorem fI.gq{w:Wd}{A:OA}:∀{kl kl':List OA} {S:List Nat},az A kl kl'->fI w kl S->∃S',fI w (A::kl') S'/\S.Perm S'
 |_,_,S,.here,h=>⟨S,h,.refl _⟩
 |_,_,_,.there s,⟨S1,S2,h1,h2,e⟩=>by
  obtain⟨S',⟨T1,T2,q1,q2,e'⟩,hp⟩:=fI.gq s h2;subst e e';refine⟨T1++(S1++T2),⟨T1,_,q1,⟨S1,T2,h1,q2,rfl⟩,rfl⟩,?_⟩;have:(S1++S2).Perm (S1++(T1++T2)):=hp.append_left S1;refine this.trans ?_;rw[<- List.append_assoc,<- List.append_assoc];exact List.Perm.append_right T2 List.perm_append_comm
theorem fI.kv{w:Wd}:∀{k kl kl':List OA} {S:List Nat},aI k kl kl'->fI w kl S->∃S1 S2,fI w k S1/\fI w kl' S2/\S.Perm (S1++S2)
 |_,_,_,S,.nil,h=>⟨[],S,rfl,h,.refl _⟩
 |_,_,_,S,.cons s r,h=>by
  obtain⟨S',⟨T1,T2,q1,q2,e⟩,hp⟩:=h.gq s;obtain⟨U1,U2,u1,u2,hu⟩:=fI.kv r q2;subst e;exact⟨T1++U1,U2,⟨T1,U1,q1,u1,rfl⟩,u2,hp.trans (by rw[List.append_assoc];exact hu.append_left T1)⟩
inductive Sub{α:Type}:List α->List α->Prop
 |nil {l:List α}:Sub [] l
 |cons {a:α} {k l:List α} (h:a∈l) (h2:Sub k l):Sub (a::k) l
theorem Sub.mem{α:Type}:∀{k l:List α},Sub k l->∀x∈k,x∈l
 |_,_,.nil,x,hx=>by cases hx
 |_,_,.cons h h2,x,hx=>by
  cases hx with
  |head=>exact h
  |tail _ hx=>exact h2.mem x hx
structure abx(B:List Nat)(h h':IH):Prop where
 next:h.next<=h'.next
 get:∀i,i<h.next->i∉B->h'.get i=h.get i
 low:h.low<=h.next->(∀b∈B,h.low<=b)->h'.low=h.low
structure St(B:List Nat)(w0:Wd)(kl:List OA)(F:List aO)(w:Wd):Prop where
 agree:abx B w0.h w.h
 le:w0.Le w
 gF:∀i,i<w0.h.next->w.z i->w0.z i\/i∈B
 own:∃S,fI w kl S/\S.Nodup/\∀i∈S,(w0.h.next<=i\/i∈B)/\i<w.h.next/\¬w.z i
 facts:∀f∈F,f.p w
section
variable {B:List Nat} {w0 w:Wd} {kl:List OA} {F:List aO}
theorem St.kv{k kl':List OA}(s:aI k kl kl')(h:St B w0 kl F w):St B w0 (k++kl') F w:=by
 obtain⟨S,h1,h2,h3⟩:=h.own;obtain⟨S1,S2,q1,q2,hp⟩:=h1.kv s;exact⟨h.agree,h.le,h.gF,⟨S1++S2,q1.app q2,hp.nodup h2,λi hi=>h3 i (hp.mem_iff.2 hi)⟩,h.facts⟩
theorem St.gq{A:OA}{kl':List OA}(s:az A kl kl')(h:St B w0 kl F w):St B w0 (A::kl') F w:=h.kv (.cons s .nil)
theorem St.drop{k kl':List OA}(h:St B w0 (k++kl') F w):St B w0 k F w:=by
 obtain⟨S,h1,h2,h3⟩:=h.own;have:∀{k:List OA} {S:List Nat},fI w (k++kl') S->∃S1 S2,fI w k S1/\S=S1++S2:=by
  intro k;induction k with
  |nil=>intro S hS;exact⟨[],S,rfl,rfl⟩
  |cons A k ih=>
   rintro S ⟨T1,T2,q1,q2,e⟩;obtain⟨S1,S2,u1,u2⟩:=ih q2;exact⟨T1++S1,S2,⟨T1,S1,q1,u1,rfl⟩,by rw[e,u2,List.append_assoc]⟩
 obtain⟨S1,S2,q1,e⟩:=this h1;subst e;exact⟨h.agree,h.le,h.gF,⟨S1,q1,(iT.1 h2).1,λi hi=>h3 i (je _ hi)⟩,h.facts⟩
theorem St.sub{F':List aO}(s:Sub F' F)(h:St B w0 kl F w):St B w0 kl F' w:=⟨h.agree,h.le,h.gF,h.own,λf hf=>h.facts f (s.mem f hf)⟩
theorem St.add{F':List aO}(h:St B w0 kl F w)(hf:∀f∈F',f.p w):St B w0 kl (F'++F) w:=
 ⟨h.agree,h.le,h.gF,h.own,λf h1=>(dX.1 h1).elim (hf f) (h.facts f)⟩
theorem St.get{b:Nat}{o:dN}(h:St B w0 (pt b o::kl) F w):w.h.get b=some o/\b<w.h.next/\(w0.h.next<=b\/b∈B):=by
 obtain⟨S,⟨S1,S2,⟨e1,q1⟩,_,e⟩,h2,h3⟩:=h.own;have hb:b∈S:=by rw[e,e1];simp
 exact⟨q1,(h3 b hb).2.1,(h3 b hb).1⟩
theorem St.at_{b:Nat}{o:dN}{kl':List OA}(s:az (pt b o) kl kl')(h:St B w0 kl F w):At w.h b o:=⟨(h.gq s).get.2.1,(h.gq s).get.1⟩
noncomputable def Wd.new(w:Wd)(o:dN):Wd:=⟨w.h.new o,w.z,λi hi=>Km (w.nJ i hi)⟩
theorem St.new(h:St B w0 kl F w)(o:dN):St B w0 (pt w.h.next o::kl) F (w.new o):=by
 have hg:∀i,i<w.h.next->(w.h.new o).get i=w.h.get i:=λi hi=>by rw[IH.jc,if_neg (by omega)]
 have hle:w.Le (w.new o):=⟨BI _,λ_ h=>h,λi hi=>hg i (w.nJ i hi)⟩
 obtain⟨S,h1,h2,h3⟩:=h.own;refine⟨⟨Nat.le_succ_of_le h.agree.next,λi hi hb=>(hg i (mM hi h.agree.next)).trans (h.agree.get i hi hb),λa b=>h.agree.low a b⟩,h.le.trans hle,h.gF,
  ⟨[w.h.next]++S,⟨[w.h.next],S,⟨rfl,by show(w.h.new o).get _=_;rw[IH.jc,if_pos rfl]⟩,fI.loc hle (λi hi=>hg i (h3 i hi).2.1) h1,rfl⟩,?_,?_⟩,λf hf=>f.mono hle (h.facts f hf)⟩
 ·refine yD.2 ⟨λhm=>?_,h2⟩;have:=(h3 _ hm).2.1;omega
 ·intro i hi;rcases dX.1 hi with hi|hi
  ·rw[bM.1 hi];exact⟨.inl h.agree.next,wN _,λhz=>absurd (w.nJ _ hz) (Nat.lt_irrefl _)⟩
  ·exact⟨(h3 i hi).1,Km (h3 i hi).2.1,(h3 i hi).2.2⟩
theorem St.write{b:Nat}{o o':dN}(h:St B w0 (pt b o::kl) F w):St B w0 (pt b o'::kl) F ⟨w.h.set b o',w.z,λi hi=>w.nJ i hi⟩:=by
 obtain⟨S,⟨S1,S2,⟨e1,q1⟩,q2,e⟩,h2,h3⟩:=h.own;subst e e1;have hb:=h3 b (by simp);have hn:b∉S2:=λhm=>(yD.1 h2).1 hm;have hg:∀i,i≠b->(w.h.set b o').get i=w.h.get i:=λi hi=>by rw[IH.nH,if_neg hi]
 have hle:w.Le ⟨w.h.set b o',w.z,λi hi=>w.nJ i hi⟩:=⟨bT _,λ_ h=>h,λi hi=>hg i (λe=>hb.2.2 (e▸hi))⟩
 refine⟨⟨h.agree.next,λi hi hB=>(hg i ?_).trans (h.agree.get i hi hB),λa c=>?_⟩,h.le.trans hle,h.gF,
  ⟨[b]++S2,⟨[b],S2,⟨rfl,by show(w.h.set b o').get b=_;rw[IH.nH,if_pos rfl]⟩,fI.loc hle (λi hi=>hg i (λe=>hn (e▸hi))) q2,rfl⟩,h2,h3⟩,λf hf=>f.mono hle (h.facts f hf)⟩
 ·rcases hb.1 with q|q
  ·omega
  ·intro e;exact hB (e▸q)
 ·have hl:=h.agree.low a c;show(w.h.set b o').low=_;rw[IH.GG,hl];rcases hb.1 with q|q
  ·omega
  ·have:=c b q;omega
theorem St.move{b:Nat}{o o':dN}{h':IH}(h:St B w0 (pt b o::kl) F w)(m:Av w.h h' b o'):∃w':Wd,w'.h=h'/\St B w0 (pt w.h.next o'::kl) F w'/\w.Le w':=by
 obtain⟨S,⟨S1,S2,⟨e1,q1⟩,q2,e⟩,h2,h3⟩:=h.own;subst e e1;have hb:=h3 b (by simp);have hn:b∉S2:=λhm=>(yD.1 h2).1 hm;let w':Wd:=⟨h',w.z,λi hi=>by rw[m.next];exact Km (w.nJ i hi)⟩
 have hle:w.Le w':=⟨by show _<=h'.next;rw[m.next];exact BI _,λ_ h=>h,λi hi=>m.get i (w.nJ i hi) (λe=>hb.2.2 (e▸hi))⟩
 refine⟨w',rfl,⟨⟨by show _<=h'.next;rw[m.next];exact Nat.le_succ_of_le h.agree.next,λi hi hB=>(m.get i (mM hi h.agree.next) ?_).trans (h.agree.get i hi hB),λa c=>?_⟩,h.le.trans hle,h.gF,
  ⟨[w.h.next]++S2,⟨[w.h.next],S2,⟨rfl,m.at_.2⟩,fI.loc hle (λi hi=>m.get i (h3 i (by simp[hi])).2.1 (λe=>hn (e▸hi))) q2,rfl⟩,?_,?_⟩,λf hf=>f.mono hle (h.facts f hf)⟩,hle⟩
 ·rcases hb.1 with q|q
  ·omega
  ·intro e;exact hB (e▸q)
 ·have hl:=h.agree.low a c;rw[<- hl];refine m.low ?_;rw[hl];rcases hb.1 with q|q
  ·omega
  ·exact c b q
 ·refine yD.2 ⟨λhm=>?_,(yD.1 h2).2⟩;have:=(h3 _ (cO _ hm)).2.1;omega
 ·intro i hi;have hnx:w'.h.next=w.h.next+1:=m.next
  rcases dX.1 hi with hi|hi
  ·rw[bM.1 hi];exact⟨.inl h.agree.next,by omega,λhz=>absurd (w.nJ _ hz) (Nat.lt_irrefl _)⟩
  ·have:=h3 i (by simp[hi]);exact⟨this.1,by omega,this.2.2⟩
theorem St.AB{A A':OA}(hA:∀w S,A.p w S->A'.p w S)(h:St B w0 (A::kl) F w):St B w0 (A'::kl) F w:=by
 obtain⟨S,⟨S1,S2,q1,q2,e⟩,h2,h3⟩:=h.own;exact⟨h.agree,h.le,h.gF,⟨S,⟨S1,S2,hA w S1 q1,q2,e⟩,h2,h3⟩,h.facts⟩
theorem St.Cv{A A':OA}(h:St B w0 (A::kl) F w)(hA:∀S,A.p w S->A'.p w S):St B w0 (A'::kl) F w:=by
 obtain⟨S,⟨S1,S2,q1,q2,e⟩,h2,h3⟩:=h.own;exact⟨h.agree,h.le,h.gF,⟨S,⟨S1,S2,hA S1 q1,q2,e⟩,h2,h3⟩,h.facts⟩
theorem St.tail{A:OA}(h:St B w0 (A::kl) F w):St B w0 kl F w:=by
 obtain⟨S,⟨S1,S2,q1,q2,e⟩,h2,h3⟩:=h.own;subst e;exact⟨h.agree,h.le,h.gF,⟨S2,q2,(iT.1 h2).2.1,λi hi=>h3 i (nA _ hi)⟩,h.facts⟩
def rH(A:OA)(fs:List aO):Prop:=∀(w w':Wd) S,A.p w S->w.Le w'->w'.h=w.h->(∀i∈S,w'.z i)->∀f∈fs,f.p w'
theorem St.freeze{A:OA}{fs:List aO}(hA:rH A fs)(h:St B w0 (A::kl) F w):∃w',w'.h=w.h/\St B w0 kl (fs++F) w':=by
 obtain⟨S,⟨S1,S2,q1,q2,e⟩,h2,h3⟩:=h.own;subst e;let w':Wd:=⟨w.h,λi=>w.z i\/i∈S1,λi hi=>hi.elim (w.nJ i) λhi=>(h3 i (je _ hi)).2.1⟩
 have hle:w.Le w':=⟨bT _,λi hi=>.inl hi,λ_ _=>rfl⟩
 have hnd:=iT.1 h2;refine⟨w',rfl,h.agree,h.le.trans hle,λi hi hz=>?_,⟨S2,fI.loc hle (λ_ _=>rfl) q2,hnd.2.1,λi hi=>?_⟩,λf hf=>?_⟩
 ·rcases hz with hz|hz
  ·exact h.gF i hi hz
  ·rcases(h3 i (je _ hz)).1 with q|q
   ·omega
   ·exact .inr q
 ·have:=h3 i (nA _ hi);refine⟨this.1,this.2.1,λhz=>hz.elim this.2.2 λhm=>?_⟩;exact hnd.2.2 i hm i hi rfl
 ·rcases dX.1 hf with hf|hf
  ·exact hA w w' S1 q1 hle rfl (λi hi=>.inr hi) f hf
  ·exact f.mono hle (h.facts f hf)
theorem gz{α:Type}{E:Enc α}{v:Value}{xs:List α}:rH (ap E v xs) [ai E v xs]:=by
 intro w w' S hp hle hh hz f hf;rw[bM.1 hf];rcases hp with⟨h1,h2,_⟩|⟨b,o,f,cells,h1,h2,h3,h4,h5,h6⟩
 ·exact .inl ⟨h1,none,0,h2,trivial⟩
 ·refine .inr ⟨b,o,f,_,cells,⟨h1,bT _,h2⟩,⟨hz b (by rw[h3];exact bM.2 rfl),.inl (by rw[hh];exact h4)⟩,λk x hk=>?_⟩;obtain⟨y,q1,q2⟩:=h6 k x hk;exact⟨y,q1,λf hf=>f.mono hle (q2 f hf)⟩
theorem eX{b:Nat}{cs:List Value}:rH (pt b (.cells cs)) [gY b 0 cs]:=by
 intro w w' S ⟨h1,h2⟩ hle hh hz f hf;rw[bM.1 hf];exact⟨cs,⟨hz b (by rw[h1];exact bM.2 rfl),.inl (by rw[hh];exact h2)⟩,λj u hj=>by rw[fo];exact hj⟩
theorem uR{b f c:Nat}{xs:List Int}(hc:xs.length<=c:=by first|exact bT _|omega)(hf:f=0\/f=1:=by first|exact .inl rfl|exact .inr rfl):rH (pt b (.cells (xs.map (.int .i64)))) [ai ae (.slice (some ⟨b,0,some f⟩) xs.length c) xs]:=by
 intro w w' S ⟨h1,h2⟩ hle hh hz g hg;rw[bM.1 hg];refine .inr ⟨b,0,f,c,_,⟨rfl,hc,hf⟩,⟨hz b (by rw[h1];exact bM.2 rfl),.inl (by rw[hh];exact h2)⟩,λk x hk=>⟨(),λj u hj=>?_,λf hf=>by cases hf⟩⟩;match j,hj with
 |0,hj=>
  cases hj;simp[ae,hk]
end
end Go.Ideal
namespace Go.Ideal
variable {P:Program}
def R(Q:IH->Prop)(B:List Nat)(w0:Wd)(kl:List OA)(F:List aO):Prop:=∀w,St B w0 kl F w->Q w.h
structure dQ(G G':Prop):Prop where
 h:G'->G
theorem dQ.refl(G:Prop):dQ G G:=⟨id⟩
theorem dQ.trans{A B C:Prop}(a:dQ A B)(b:dQ B C):dQ A C:=⟨λc=>a.h (b.h c)⟩
theorem dQ.all{X:Type}{A B:X->Prop}(h:∀x,dQ (A x) (B x)):dQ (∀x,A x) (∀x,B x):=⟨λb x=>(h x).h (b x)⟩
theorem dQ.imp{p A B:Prop}(h:dQ A B):dQ (p->A) (p->B):=⟨λb x=>h.h (b x)⟩
def Pu(P:Program)(ρ:Operand->Value)(op:aF)(v:Value):Prop:=∀h,op.run P ρ h=some (v,h)
inductive EvL(ρ:Operand->Value):List Operand->List Value->Prop
 |nil:EvL ρ [] []
 |cons {x:Operand} {v:Value} {xs:List Operand} {vs:List Value} (h:ρ x=v) (t:EvL ρ xs vs):EvL ρ (x::xs) (v::vs)
theorem EvL.map{ρ:Operand->Value}:∀{xs:List Operand} {vs:List Value},EvL ρ xs vs->xs.map ρ=vs
 |_,_,.nil=>rfl
 |_,_,.cons h t=>by rw[gL,h,t.map]
section
variable {ρ:Operand->Value}
theorem EI{x:Operand}{v:Value}(hx:ρ x=v):Pu P ρ (.mv x) v:=λh=>by simp only[aF.run,hx]
theorem Hw{x:Operand}{v:Value}(hx:ρ x=v):Pu P ρ (.nD x) v:=λh=>by simp only[aF.run,hx]
theorem Hy{c x y:Operand}{v:Value}(hc:ρ c=.bool true)(hx:ρ x=v):Pu P ρ (.pick c x y) v:=λh=>by simp only[aF.run,hc,hx,cond]
theorem Hz{c x y:Operand}{v:Value}(hc:ρ c=.bool false)(hx:ρ y=v):Pu P ρ (.pick c x y) v:=λh=>by simp only[aF.run,hc,hx,cond]
theorem HV{x:Operand}{b:Bool}(hx:ρ x=.bool b):Pu P ρ (.un .not x) (.bool !b):=λh=>by simp only[aF.run,hx];rfl
theorem HY{x:Operand}{a:Option Addr}{m c:Nat}(hx:ρ x=.slice a m c):Pu P ρ (.wW x) (.int .i64 (m:Int)):=λh=>by simp only[aF.run,hx,RI]
theorem HZ{n:Nat}:Pu P ρ (.Gu n) (.int .i64 (n:Int)):=λh=>rfl
theorem H6{x y:Operand}{t:TypeId}{a b:Int}(hx:ρ x=.int .i64 a)(hy:ρ y=.int .i64 b):Pu P ρ (.bin .lss t x y) (.bool (decide (a<b))):=λh=>by
 simp only[aF.run,hx,hy];rw[xH (v:=.bool (decide (a<b)))];simp[oZ,tC,<- Int.not_le]
theorem H7{x y:Operand}{t:TypeId}{a b:Int}(hx:ρ x=.int .i64 a)(hy:ρ y=.int .i64 b):Pu P ρ (.bin .leq t x y) (.bool (decide (a<=b))):=λh=>by
 simp only[aF.run,hx,hy];rw[xH (v:=.bool (decide (a<=b)))];simp[oZ,tC]
theorem H8{x y:Operand}{t:TypeId}{a b:Int}(hx:ρ x=.int .i64 a)(hy:ρ y=.int .i64 b):Pu P ρ (.bin .gtr t x y) (.bool (decide (b<a))):=λh=>by
 simp only[aF.run,hx,hy];rw[xH (v:=.bool (decide (b<a)))];simp[oZ,tC,<- Int.not_le]
theorem H9{x y:Operand}{t:TypeId}{a b:Int}(hx:ρ x=.int .i64 a)(hy:ρ y=.int .i64 b):Pu P ρ (.bin .geq t x y) (.bool (decide (b<=a))):=λh=>by
 simp only[aF.run,hx,hy];rw[xH (v:=.bool (decide (b<=a)))];simp[oZ,tC]
theorem Ia{x y:Operand}{t:TypeId}{a b:Int}(hx:ρ x=.int .i64 a)(hy:ρ y=.int .i64 b):Pu P ρ (.bin .eql t x y) (.bool (decide (a=b))):=λh=>by
 simp only[aF.run,hx,hy];rw[xH (v:=.bool (decide (a=b)))];simp[oZ,Eb];rfl
theorem Ib{x y:Operand}{t:TypeId}{a b:Int}(hx:ρ x=.int .i64 a)(hy:ρ y=.int .i64 b):Pu P ρ (.bin .neq t x y) (.bool (decide (a≠b))):=λh=>by
 simp only[aF.run,hx,hy];rw[xH (v:=.bool (decide (a≠b)))];simp[oZ,Eb];rfl
theorem Cw{x y:Operand}{t:TypeId}{a b:Int}(hx:ρ x=.int .i64 a)(hy:ρ y=.int .i64 b)(h1: -9223372036854775808<=a+b)(h2:a+b<9223372036854775808):Pu P ρ (.bin .add t x y) (.int .i64 (a+b)):=λh=>by
 simp only[aF.run,hx,hy];rw[xH (v:=.int .i64 (a+b))];simp only[oZ,KW,EF h1 h2]
theorem Ic{x y:Operand}{t:TypeId}{a b:Int}(hx:ρ x=.int .i64 a)(hy:ρ y=.int .i64 b)(h1: -9223372036854775808<=a - b)(h2:a - b<9223372036854775808):Pu P ρ (.bin .sub t x y) (.int .i64 (a - b)):=λh=>by
 simp only[aF.run,hx,hy];rw[xH (v:=.int .i64 (a - b))];simp only[oZ,Qy,EF h1 h2]
theorem Ie{x:Operand}{i:Nat}{vs:List Value}{v:Value}(hx:ρ x=.tuple ⟨vs⟩)(hv:jU vs i=some v):Pu P ρ (.extract x i) v:=λh=>by simp only[aF.run,hx,hv]
theorem Ig{x:Operand}{off b o:Nat}(hx:ρ x=.pointer (some ⟨b,o,none⟩)):Pu P ρ (.fQ off x) (.pointer (some ⟨b,o+off,none⟩)):=λh=>by simp only[aF.run,hx];rfl
theorem Ih{t:TypeId}{off n:Nat}{x:Operand}{cs:List Value}{v:Value}(hx:ρ x=.agg ⟨cs⟩)(hv:jU cs off=some v):Pu P ρ (.field t off n false x) v:=λh=>by simp only[aF.run,hx,hv]
theorem Ii{t:TypeId}{off n:Nat}{x:Operand}{cs r:List Value}(hx:ρ x=.agg ⟨cs⟩)(hv:jf (jH cs off) n=some r):Pu P ρ (.field t off n true x) (.agg ⟨r⟩):=λh=>by simp only[aF.run,hx,hv]
theorem Ij{x:Operand}{t:TypeId}{v:Value}(hx:ρ x=v):Pu P ρ (.iface t x) (.iface t v):=λh=>by simp only[aF.run,hx]
theorem Ik{t:TypeId}{zero v:Value}{x:Operand}(hx:ρ x=.iface t v):Pu P ρ (.Gs t zero false x) v:=λh=>by
 simp only[aF.run,hx];show cond (Nat.beq t t) _ _=_;rw[Nat.beq_refl];rfl
theorem aby{zero cs:List Value}{parts:List (Nat×Nat×Operand)}(hx:rA ρ zero parts=some cs):Pu P ρ (.build zero parts) (.agg ⟨cs⟩):=λh=>by simp only[aF.run,hx]
theorem Il{x:Operand}{a:Addr}(hx:ρ x=.pointer (some a)):Pu P ρ (.lm x) (.pointer (some a)):=λh=>by simp only[aF.run,hx]
theorem Im{x:Operand}{f:FuncId}{a b:Array Value}(hx:ρ x=.func (.func f) a b):Pu P ρ (.lm x) (.func (.func f) a b):=λh=>by simp only[aF.run,hx]
theorem abz{fn:Fn}{first captured:List Operand}{a b:List Value}(h1:EvL ρ first a)(h2:EvL ρ captured b):Pu P ρ (.BM fn first captured) (.func fn ⟨a⟩ ⟨b⟩):=λh=>by
 simp only[aF.run,vQ,h1.map,h2.map]
theorem EJ{x i:Operand}{size b o m c:Nat}{f:Option Nat}{k:Int}{kk:IntKind}(hx:ρ x=.slice (some ⟨b,o,f⟩) m c)(hi:ρ i=.int kk k)(h0:0<=k)(h1:k<m):
 Pu P ρ (.nQ size x i) (.pointer (some ⟨b,o+k.toNat*size,none⟩)):=λh=>by
 obtain⟨j,rfl⟩:=jA h0;simp only[aF.run,hx,hi];show cond (Nat.blt j m) _ _=_;rw[Mi (by omega)];rfl
theorem Io{x i:Operand}{size b o m c k:Nat}{f:Option Nat}{kk:IntKind}(hx:ρ x=.slice (some ⟨b,o,f⟩) m c)(hi:ρ i=.int kk (.ofNat k))(h1:Nat.blt k m=true):
 Pu P ρ (.nQ size x i) (.pointer (some ⟨b,o+k*size,none⟩)):=λh=>by
 simp only[aF.run,hx,hi,h1];rfl
theorem Ip{x i:Operand}{m size b o:Nat}{k:Int}{kk:IntKind}(hx:ρ x=.pointer (some ⟨b,o,none⟩))(hi:ρ i=.int kk k)(h0:0<=k)(h1:k<m):
 Pu P ρ (.Ku m size x i) (.pointer (some ⟨b,o+k.toNat*size,none⟩)):=λh=>by
 obtain⟨j,rfl⟩:=jA h0;simp only[aF.run,hx,hi];show cond (Nat.blt j m) _ _=_;rw[Mi (by omega)];rfl
end
section
variable {B:List Nat} {w0:Wd} {kl kl':List OA} {F:List aO} {a:aV} {K:KO}
theorem abA{x y:dI}:dQ (R (λh=>EV P (.seq x y) a h K) B w0 kl F) (R (λh=>EV P x a h (yU P y K)) B w0 kl F):=⟨λr w s=>aa1 (r w s)⟩
theorem abB{id:Nat}{c:dI}:dQ (R (λh=>EV P (.block id c) a h K) B w0 kl F) (R (λh=>EV P c a h (xD id K)) B w0 kl F):=⟨λr w s=>aa2 (r w s)⟩
theorem abC{ds:List Tmp}{l:List bV}:dQ (R (λh=>EV P (.ops ds l) a h K) B w0 kl F) (R (λh=>aH P ds l a h K) B w0 kl F):=⟨λr w s=>.ops (r w s)⟩
theorem abD{c:dI}:dQ (R (λh=>EV P (.scope c) a h K) B w0 kl F) (R (λh=>EV P c a h K) B w0 kl F):=⟨λr w s=>.scope (r w s)⟩
theorem abE:dQ (R (λh=>EV P .skip a h K) B w0 kl F) (R (λh=>K .normal a h) B w0 kl F):=⟨λr w s=>.skip (r w s)⟩
theorem abF{id:Nat}:dQ (R (λh=>EV P (.exit id) a h K) B w0 kl F) (R (λh=>K (.exit id) a h) B w0 kl F):=⟨λr w s=>.exit (r w s)⟩
theorem abG:dQ (R (λh=>EV P .ret a h K) B w0 kl F) (R (λh=>K .ret a h) B w0 kl F):=⟨λr w s=>.ret (r w s)⟩
theorem abH{ds:List Tmp}:dQ (R (λh=>aH P ds [] a h K) B w0 kl F) (R (λh=>K .normal a h) B w0 kl F):=⟨λr w s=>.nil (r w s)⟩
variable {y:dI} {i j m0:Nat} {I:Nat->aV->IH->Prop} {ch:List PanicEntry}
theorem abI:dQ (R (λh=>yU P y K .normal a h) B w0 kl F) (R (λh=>EV P y a h K) B w0 kl F):=⟨λr w s=>r w s⟩
theorem abJ:dQ (R (λh=>yU P y K .ret a h) B w0 kl F) (R (λh=>K .ret a h) B w0 kl F):=⟨λr w s=>r w s⟩
theorem abK:dQ (R (λh=>yU P y K (.exit j) a h) B w0 kl F) (R (λh=>K (.exit j) a h) B w0 kl F):=⟨λr w s=>r w s⟩
theorem abL:dQ (R (λh=>yU P y K (.panic ch) a h) B w0 kl F) (R (λh=>K (.panic ch) a h) B w0 kl F):=⟨λr w s=>r w s⟩
theorem abM:dQ (R (λh=>xD i K .normal a h) B w0 kl F) (R (λh=>K .normal a h) B w0 kl F):=⟨λr w s=>r w s⟩
theorem abN:dQ (R (λh=>xD i K .ret a h) B w0 kl F) (R (λh=>K .ret a h) B w0 kl F):=⟨λr w s=>r w s⟩
theorem abO:dQ (R (λh=>xD i K (.panic ch) a h) B w0 kl F) (R (λh=>K (.panic ch) a h) B w0 kl F):=⟨λr w s=>r w s⟩
theorem abP(e:Nat.beq j i=true):dQ (R (λh=>xD i K (.exit j) a h) B w0 kl F) (R (λh=>K .normal a h) B w0 kl F):=⟨λr w s=>abb e (r w s)⟩
theorem abQ(e:Nat.beq j i=false):dQ (R (λh=>xD i K (.exit j) a h) B w0 kl F) (R (λh=>K (.exit j) a h) B w0 kl F):=⟨λr w s=>abd e (r w s)⟩
theorem abR:dQ (R (λh=>xE I m0 K .ret a h) B w0 kl F) (R (λh=>K .ret a h) B w0 kl F):=⟨λr w s=>r w s⟩
theorem abS:dQ (R (λh=>xE I m0 K (.exit j) a h) B w0 kl F) (R (λh=>K (.exit j) a h) B w0 kl F):=⟨λr w s=>r w s⟩
theorem abT:dQ (R (λh=>xE I m0 K (.panic ch) a h) B w0 kl F) (R (λh=>K (.panic ch) a h) B w0 kl F):=⟨λr w s=>r w s⟩
end
section
variable {B:List Nat} {w0:Wd} {kl kl':List OA} {F:List aO} {K:KO} {ds:List Tmp} {rest:List bV} {n:Nat} {l:List (Nat×Value)} {D:List Deferred} {pm:Option FrameMode} {ro:Option Nat} {d:Nat} {g:Option (Tmp×Bool)}
theorem abU{c:Operand}{x y:dI}(hc:ev l c=.bool true):dQ (R (λh=>EV P (.cond c x y) (act n l D pm ro) h K) B w0 kl F) (R (λh=>EV P x (act n l D pm ro) h K) B w0 kl F):=
 ⟨λr w s=>ED true hc (λ_=>r w s) (λe=>by cases e)⟩
theorem abV{c:Operand}{x y:dI}(hc:ev l c=.bool false):dQ (R (λh=>EV P (.cond c x y) (act n l D pm ro) h K) B w0 kl F) (R (λh=>EV P y (act n l D pm ro) h K) B w0 kl F):=
 ⟨λr w s=>ED false hc (λe=>by cases e) (λ_=>r w s)⟩
theorem aA{c:Operand}{x y:dI}{p:Prop}[Decidable p](hc:ev l c=.bool (decide p))(h1:p->R (λh=>EV P x (act n l D pm ro) h K) B w0 kl F)(h2:¬p->R (λh=>EV P y (act n l D pm ro) h K) B w0 kl F):
 R (λh=>EV P (.cond c x y) (act n l D pm ro) h K) B w0 kl F:=
 λw s=>ED _ hc (λe=>h1 (iI e) w s) (λe=>h2 (nC e) w s)
theorem fq{c:Operand}{x y:dI}{p:Prop}[Decidable p](hc:ev l c=.bool (!decide p))(h1:¬p->R (λh=>EV P x (act n l D pm ro) h K) B w0 kl F)(h2:p->R (λh=>EV P y (act n l D pm ro) h K) B w0 kl F):
 R (λh=>EV P (.cond c x y) (act n l D pm ro) h K) B w0 kl F:=
 λw s=>ED _ hc (λe=>h1 (by simpa using e) w s) (λe=>h2 (by simpa using e) w s)
theorem kw{c:Operand}{x y:dI}{b:Bool}(hc:ev l c=.bool b)(h1:b=true->R (λh=>EV P x (act n l D pm ro) h K) B w0 kl F)(h2:b=false->R (λh=>EV P y (act n l D pm ro) h K) B w0 kl F):
 R (λh=>EV P (.cond c x y) (act n l D pm ro) h K) B w0 kl F:=
 λw s=>ED _ hc (λe=>h1 e w s) (λe=>h2 e w s)
theorem abW{op:aF}{re:List iq}(hn:Nat.blt d n=true)(hg:Mg l g=true):dQ (R (λh=>aH P ds (⟨⟨some d,g,op⟩,re⟩::rest) (act n l D pm ro) h K) B w0 kl F) (R (λh=>aH P ds rest (act n ((d,sS)::l) D pm ro) h K) B w0 kl F):=
 ⟨λr w s=>aa9 hn hg (r w s)⟩
theorem fA{op:aF}{v:Value}(hn:Nat.blt d n=true)(hg:cZ l g=true)(hp:Pu P (ev l) op v):dQ (R (λh=>aH P ds (⟨⟨some d,g,op⟩,[]⟩::rest) (act n l D pm ro) h K) B w0 kl F) (R (λh=>aH P ds rest (act n ((d,v)::l) D pm ro) h K) B w0 kl F):=
 ⟨λr w s=>mq hn hg (hp w.h) (r w s)⟩
abbrev ptr'(b:Nat):Value:=.pointer (some ⟨b,0,none⟩)
theorem abX{cs:List Value}{t:TypeId}(hn:Nat.blt d n=true)(hg:cZ l g=true):dQ (R (λh=>aH P ds (⟨⟨some d,g,.new cs t⟩,[]⟩::rest) (act n l D pm ro) h K) B w0 kl F)
 (∀b,R (λh=>aH P ds rest (act n ((d,.pointer (some ⟨b,0,none⟩))::l) D pm ro) h K) B w0 (pt b (.cells cs)::kl) F):=
 ⟨λr w s=>mq hn hg (h':=w.h.new (.cells cs)) (by simp only[aF.run,aF.alloc,rC]) (r w.h.next (w.new _) (s.new _))⟩
theorem abY{x:Operand}{t:TypeId}{cs:List Value}(hn:Nat.blt d n=true)(hg:cZ l g=true)(hx:cellsOf (ev l x)=some cs):dQ (R (λh=>aH P ds (⟨⟨some d,g,.box x t⟩,[]⟩::rest) (act n l D pm ro) h K) B w0 kl F)
 (∀b,R (λh=>aH P ds rest (act n ((d,.pointer (some ⟨b,0,none⟩))::l) D pm ro) h K) B w0 (pt b (.cells cs)::kl) F):=
 ⟨λr w s=>mq hn hg (h':=w.h.new (.cells cs)) (by simp only[aF.run,aF.alloc,rC,hx]) (r w.h.next (w.new _) (s.new _))⟩
theorem abZ{t:TypeId}{len:Nat}{zero cs:List Value}{parts:List (Nat×Nat×Operand)}(hn:Nat.blt d n=true)(hg:cZ l g=true)(hx:rA (ev l) zero parts=some cs):
 dQ (R (λh=>aH P ds (⟨⟨some d,g,.wU t len zero parts⟩,[]⟩::rest) (act n l D pm ro) h K) B w0 kl F)
 (∀b,R (λh=>aH P ds rest (act n ((d,.slice (some ⟨b,0,some 0⟩) len len)::l) D pm ro) h K) B w0 (pt b (.cells cs)::kl) F):=
 ⟨λr w s=>mq hn hg (h':=w.h.new (.cells cs)) (by simp only[aF.run,aF.alloc,rC,hx,zY]) (r w.h.next (w.new _) (s.new _))⟩
theorem ab0{e:TypeId}{size bytes m:Nat}{zero:List Value}{x y:Operand}(hn:Nat.blt d n=true)(hg:cZ l g=true)(hx:ev l x=.int .i64 (m:Int))(hy:ev l y=.int .i64 (m:Int))
 (hm:m*bytes<=1073741824/\m*size<=1073741824/\m<=1073741824):dQ (R (λh=>aH P ds (⟨⟨some d,g,.zV e size bytes zero x y⟩,[]⟩::rest) (act n l D pm ro) h K) B w0 kl F)
 (∀b,R (λh=>aH P ds rest (act n ((d,.slice (some ⟨b,0,some 0⟩) m m)::l) D pm ro) h K) B w0 (pt b (.cells (zeros zero m))::kl) F):=by
 refine⟨λr w s=>?_⟩;have hle:∀{a b:Nat},a<=b->Nat.ble a b=true:=λh=>by rw[vH];exact h
 refine mq hn hg (h':=w.h.new (.cells (zeros zero m))) ?_ (r w.h.next (w.new _) (s.new _));simp only[aF.run,aF.alloc,hx,hy];show rC (cond (Nat.ble m m&&Nat.ble (m*bytes) small&&Nat.ble (m*size) small&&Nat.ble m small) _ _) w.h=_;rw[hle (bT m),hle (show m*bytes<=small from hm.1),hle (show m*size<=small from hm.2.1),hle (show m<=small from hm.2.2)];rfl
theorem ab1{x:Operand}{b o:Nat}{cs:List Value}{v:Value}(hn:Nat.blt d n=true)(hg:cZ l g=true)(hx:ev l x=.pointer (some ⟨b,o,none⟩))(hk:az (pt b (.cells cs)) kl kl')(hv:jU cs o=some v):
 dQ (R (λh=>aH P ds (⟨⟨some d,g,.gQ x⟩,[]⟩::rest) (act n l D pm ro) h K) B w0 kl F) (R (λh=>aH P ds rest (act n ((d,v)::l) D pm ro) h K) B w0 kl F):=
 ⟨λr w s=>Hg hn hg hx (s.at_ hk) (by rw[<- sZ];exact hv) (r w s)⟩
theorem R9{x:Operand}{b o m:Nat}{cs c:List Value}(hn:Nat.blt d n=true)(hg:cZ l g=true)(hx:ev l x=.pointer (some ⟨b,o,none⟩))(hk:az (pt b (.cells cs)) kl kl')(hv:jf (jH cs o) m=some c):
 dQ (R (λh=>aH P ds (⟨⟨some d,g,.pW m x⟩,[]⟩::rest) (act n l D pm ro) h K) B w0 kl F) (R (λh=>aH P ds rest (act n ((d,.agg ⟨c⟩)::l) D pm ro) h K) B w0 kl F):=
 ⟨λr w s=>aba hn hg hx (s.at_ hk) hv (r w s)⟩
theorem Iq{w:Wd}{b o j:Nat}{cs:List Value}{v:Value}(h:(gY b o cs).p w)(hv:jU cs j=some v):w.h.om b (o+j)=some v:=by
 obtain⟨cells,h1,h2⟩:=h;rw[h1.cells.om];exact h2 j v (by rw[<- sZ];exact hv)
theorem Ir{w:Wd}{b o j m:Nat}{cs c:List Value}(h:(gY b o cs).p w)(hv:jf (jH cs j) m=some c):w.h.iM b (o+j) m=some c:=by
 obtain⟨cells,h1,h2⟩:=h;rw[h1.cells.iM];rw[qD,p9]at hv⊢;split at hv
 ·rename_i hm;cases hv;rw[sO]at hm;have key:∀i,i<m->cells[o+j+i]? =cs[j+i]?:=λi hi=>by
   have hlt:j+i<cs.length:=by omega
   rw[qw,bP hlt];exact h2 (j+i) _ (bP hlt)
  have hlen:m=0\/o+j+m<=cells.length:=by
   rcases Gc m with e|e
   ·exact .inl e
   ·right;have:=key (m - 1) (by omega);rw[bP (show j+(m - 1)<cs.length by omega)]at this;have:=(bq.1 this).1;omega
  rw[if_pos (by rw[sO];omega)];congr 1;apply iY;intro i;rw[sK,sK];by_cases hi:i<m
  ·rw[if_pos hi,if_pos hi,oO,oO];exact key i hi
  ·rw[if_neg hi,if_neg hi]
 ·cases hv
theorem ab2{x:Operand}{b o:Nat}{cs:List Value}{v:Value}(hn:Nat.blt d n=true)(hg:cZ l g=true)(hx:ev l x=.pointer (some ⟨b,o,none⟩))(hk:gY b o cs∈F)(hv:jU cs 0=some v):
 dQ (R (λh=>aH P ds (⟨⟨some d,g,.gQ x⟩,[]⟩::rest) (act n l D pm ro) h K) B w0 kl F) (R (λh=>aH P ds rest (act n ((d,v)::l) D pm ro) h K) B w0 kl F):=
 ⟨λr w s=>mq hn hg (by simp only[aF.run,hx,show w.h.om b o=some v from Iq (j:=0) (s.facts _ hk) hv]) (r w s)⟩
theorem ab3{x:Operand}{b o j:Nat}{cs:List Value}{v:Value}(hn:Nat.blt d n=true)(hg:cZ l g=true)(hx:ev l x=.pointer (some ⟨b,o+j,none⟩))(hk:gY b o cs∈F)(hv:jU cs j=some v):
 dQ (R (λh=>aH P ds (⟨⟨some d,g,.gQ x⟩,[]⟩::rest) (act n l D pm ro) h K) B w0 kl F) (R (λh=>aH P ds rest (act n ((d,v)::l) D pm ro) h K) B w0 kl F):=
 ⟨λr w s=>mq hn hg (by simp only[aF.run,hx,Iq (s.facts _ hk) hv]) (r w s)⟩
theorem ab4{x:Operand}{b o m:Nat}{cs c:List Value}(hn:Nat.blt d n=true)(hg:cZ l g=true)(hx:ev l x=.pointer (some ⟨b,o,none⟩))(hk:gY b o cs∈F)(hv:jf cs m=some c):
 dQ (R (λh=>aH P ds (⟨⟨some d,g,.pW m x⟩,[]⟩::rest) (act n l D pm ro) h K) B w0 kl F) (R (λh=>aH P ds rest (act n ((d,.agg ⟨c⟩)::l) D pm ro) h K) B w0 kl F):=
 ⟨λr w s=>mq hn hg (by simp only[aF.run,hx,show w.h.iM b o m=some c from Ir (j:=0) (s.facts _ hk) (by rw[p9];exact hv)]) (r w s)⟩
theorem Sa{x:Operand}{b o j m:Nat}{cs c:List Value}(hn:Nat.blt d n=true)(hg:cZ l g=true)(hx:ev l x=.pointer (some ⟨b,o+j,none⟩))(hk:gY b o cs∈F)(hv:jf (jH cs j) m=some c):
 dQ (R (λh=>aH P ds (⟨⟨some d,g,.pW m x⟩,[]⟩::rest) (act n l D pm ro) h K) B w0 kl F) (R (λh=>aH P ds rest (act n ((d,.agg ⟨c⟩)::l) D pm ro) h K) B w0 kl F):=
 ⟨λr w s=>mq hn hg (by simp only[aF.run,hx,Ir (s.facts _ hk) hv]) (r w s)⟩
theorem ab5{x y:Operand}{b o m:Nat}{cs vs c:List Value}(hg:cZ l g=true)(hx:ev l x=.pointer (some ⟨b,o,none⟩))(hy:cellsOf (ev l y)=some vs)(hm:Nat.beq (iL vs) m=true)
 (hk:az (pt b (.cells cs)) kl kl') (hv:jV cs o vs=some c):
 dQ (R (λh=>aH P ds (⟨⟨none,g,.store m x y⟩,[]⟩::rest) (act n l D pm ro) h K) B w0 kl F) (R (λh=>aH P ds rest (act n l D pm ro) h K) B w0 (pt b (.cells c)::kl') F):=
 ⟨λr w s=>Mh hg (v:=dU) (h':=w.h.set b (.cells c)) (by simp only[aF.run,hx,hy,hm];simp only[IH.storeAt,(s.at_ hk).2,hv];rfl) (r _ ((s.gq hk).write))⟩
theorem ab6{x y:Operand}{b o:Nat}{cs:List Value}{v:Value}(hg:cZ l g=true)(hx:ev l x=.pointer (some ⟨b,o,none⟩))(hy:ev l y=v)(hv:cellsOf v=some [v])
 (hk:az (pt b (.cells cs)) kl kl') (ho:o<cs.length):
 dQ (R (λh=>aH P ds (⟨⟨none,g,.store 1 x y⟩,[]⟩::rest) (act n l D pm ro) h K) B w0 kl F) (R (λh=>aH P ds rest (act n l D pm ro) h K) B w0 (pt b (.cells (cs.set o v))::kl') F):=
 ⟨λr w s=>Mh hg (v:=dU) (h':=w.h.set b (.cells (cs.set o v))) (by
  simp only[aF.run,hx,hy,hv];show cond (Nat.beq 1 1) _ _=_;simp only[IH.storeAt,(s.at_ hk).2,Hl cs o v ho];rfl) (r _ ((s.gq hk).write))⟩
theorem ab7{x:Operand}{b o:Nat}{cs:List Value}{v:Value}(hn:Nat.blt d n=true)(hg:cZ l g=true)(hx:ev l x=.pointer (some ⟨b,o,none⟩))(hk:az (pt b (.cells cs)) kl kl')(hv:cs[o]? =some v):
 dQ (R (λh=>aH P ds (⟨⟨some d,g,.gQ x⟩,[]⟩::rest) (act n l D pm ro) h K) B w0 kl F) (R (λh=>aH P ds rest (act n ((d,v)::l) D pm ro) h K) B w0 kl F):=
 ⟨λr w s=>Hg hn hg hx (s.at_ hk) hv (r w s)⟩
theorem Sb{α:Type}{E:Enc α}{v:Value}{xs:List α}{w:Wd}(h:(ai E v xs).p w):∃a c,v=.slice a xs.length c:=by
 rcases h with⟨rfl,a,c,rfl,_⟩|⟨i,o,f,c,cs,⟨h1,_⟩,_⟩
 ·exact⟨a,c,rfl⟩
 ·exact⟨_,c,h1⟩
theorem ab8{α:Type}{E:Enc α}{v:Value}{xs:List α}{w:Wd}(h:(ai E v xs).p w){k:Nat}(hk:k<xs.length):
 ∃i o f c x y,v=.slice (some ⟨i,o,f⟩) xs.length c/\xs[k]? =some x/\(gY i (o+k*E.n) (E.pat x y)).p w/\∀f∈E.fs x y,f.p w:=by
 rcases h with⟨rfl,a,c,rfl,_⟩|⟨i,o,f,c,cs,⟨h1,_⟩,h2,h3⟩
 ·simp at hk
 ·obtain⟨y,q1,q2⟩:=h3 k xs[k] (bP hk);exact⟨i,o,some f,c,xs[k],y,h1,bP hk,⟨cs,h2,q1⟩,q2⟩
theorem ab9{α:Type}{E:Enc α}{x:Operand}{v:Value}{xs:List α}(hn:Nat.blt d n=true)(hg:cZ l g=true)(hx:ev l x=v)(hf:ai E v xs∈F):
 dQ (R (λh=>aH P ds (⟨⟨some d,g,.wW x⟩,[]⟩::rest) (act n l D pm ro) h K) B w0 kl F) (R (λh=>aH P ds rest (act n ((d,.int .i64 (xs.length:Int))::l) D pm ro) h K) B w0 kl F):=
 ⟨λr w s=>by
  obtain⟨a,c,e⟩:=Sb (s.facts _ hf);exact RJ hn hg (hx.trans e) (r w s)⟩
theorem Mx{α:Type}{E:Enc α}{v:Value}{xs:List α}{w:Wd}{S:List Nat}(h:(ap E v xs).p w S):∃a,v=.slice a xs.length xs.length:=by
 rcases h with⟨rfl,rfl,_⟩|⟨b,o,f,cells,h1,_⟩
 ·exact⟨none,rfl⟩
 ·exact⟨_,h1⟩
theorem acd{α:Type}{E:Enc α}{x:Operand}{v:Value}{xs:List α}(hn:Nat.blt d n=true)(hg:cZ l g=true)(hx:ev l x=v)(hk:az (ap E v xs) kl kl'):
 dQ (R (λh=>aH P ds (⟨⟨some d,g,.wW x⟩,[]⟩::rest) (act n l D pm ro) h K) B w0 kl F) (R (λh=>aH P ds rest (act n ((d,.int .i64 (xs.length:Int))::l) D pm ro) h K) B w0 kl F):=
 ⟨λr w s=>by
  obtain⟨S,⟨S1,S2,q,_⟩,_⟩:=(s.gq hk).own;obtain⟨a,e⟩:=Mx q;exact RJ hn hg (hx.trans e) (r w s)⟩
theorem MB{α:Type}{E:Enc α}{x i:Operand}{v:Value}{xs:List α}{size:Nat}{k:Int}{kk:IntKind}(hn:Nat.blt d n=true)(hg:cZ l g=true)(hx:ev l x=v)(hi:ev l i=.int kk k)(hf:ai E v xs∈F)
 (hs:E.n=size) (h0:0<=k) (h1:k<xs.length):
 dQ (R (λh=>aH P ds (⟨⟨some d,g,.nQ size x i⟩,[]⟩::rest) (act n l D pm ro) h K) B w0 kl F)
  (∀b o z y,xs[k.toNat]? =some z->R (λh=>aH P ds rest (act n ((d,.pointer (some ⟨b,o,none⟩))::l) D pm ro) h K) B w0 kl (gY b o (E.pat z y)::(E.fs z y++F))):=by
 refine⟨λr w s=>?_⟩;obtain⟨b,o,f,c,z,y,rfl,h2,h3,h4⟩:=ab8 (s.facts _ hf) (k:=k.toNat) (by omega);refine Mj hn hg hx hi h0 h1 (r b _ z y h2 w ?_);rw[<- hs];exact(s.add (F':=gY b (o+k.toNat*E.n) (E.pat z y)::E.fs z y) (λf hf=>by
  rcases dx.1 hf with rfl|hf
  ·exact h3
  ·exact h4 f hf))
theorem Sc{x i:Operand}{v:Value}{xs:List Int}{k:Int}{kk:IntKind}(hn:Nat.blt d n=true)(hg:cZ l g=true)(hx:ev l x=v)(hi:ev l i=.int kk k)(hf:ai ae v xs∈F)(h0:0<=k)(h1:k<xs.length):
 dQ (R (λh=>aH P ds (⟨⟨some d,g,.nQ 1 x i⟩,[]⟩::rest) (act n l D pm ro) h K) B w0 kl F)
  (∀b o z,xs[k.toNat]? =some z->R (λh=>aH P ds rest (act n ((d,.pointer (some ⟨b,o,none⟩))::l) D pm ro) h K) B w0 kl (gY b o [.int .i64 z]::F)):=
 ⟨λr=>(MB hn hg hx hi hf rfl h0 h1).h λb o z y hz=>r b o z hz⟩
theorem Sd{x i:Operand}{v:Value}{xs:List Bool}{k:Int}{kk:IntKind}(hn:Nat.blt d n=true)(hg:cZ l g=true)(hx:ev l x=v)(hi:ev l i=.int kk k)(hf:ai R8 v xs∈F)(h0:0<=k)(h1:k<xs.length):
 dQ (R (λh=>aH P ds (⟨⟨some d,g,.nQ 1 x i⟩,[]⟩::rest) (act n l D pm ro) h K) B w0 kl F)
  (∀b o z,xs[k.toNat]? =some z->R (λh=>aH P ds rest (act n ((d,.pointer (some ⟨b,o,none⟩))::l) D pm ro) h K) B w0 kl (gY b o [.bool z]::F)):=
 ⟨λr=>(MB hn hg hx hi hf rfl h0 h1).h λb o z y hz=>r b o z hz⟩
theorem gH{α:Type}(E:Enc α){Q:IH->Prop}(h:R Q B w0 (ap E (.slice none 0 0) []::kl) F):R Q B w0 kl F:=λw s=>by
 obtain⟨S,h1,h2,h3⟩:=s.own;exact h w ⟨s.agree,s.le,s.gF,⟨S,⟨[],S,.inl ⟨rfl,rfl,rfl⟩,h1,rfl⟩,h2,h3⟩,s.facts⟩
theorem Sg{α:Type}(E:Enc α){b:Nat}{Q:IH->Prop}(hk:az (pt b (.cells [])) kl kl')(h:R Q B w0 (ap E (.slice (some ⟨b,0,some 0⟩) 0 0) []::kl') F):R Q B w0 kl F:=λw s=>
 h w ((s.gq hk).AB (A:=pt b (.cells [])) (A':=ap E (.slice (some ⟨b,0,some 0⟩) 0 0) []) λw S hp=>.inr ⟨b,0,0,[],rfl,.inl rfl,hp.1,hp.2,by simp,λk x hk=>by cases hk⟩)
theorem ace{A:OA}{fs:List aO}{Q:IH->Prop}(hA:rH A fs)(hk:az A kl kl')(h:R Q B w0 kl' (fs++F)):R Q B w0 kl F:=λw s=>by
 obtain⟨w',e,s'⟩:=(s.gq hk).freeze hA;rw[<- e];exact h w' s'
theorem _root_.Go.Ideal.St.fresh{w:Wd}{o:dN}{h':IH}(s:St B w0 kl F w)(ag:Agree w.h h')(at_:At h' w.h.next o)(hn:h'.next=w.h.next+1):∃w':Wd,w'.h=h'/\St B w0 (pt w.h.next o::kl) F w':=by
 have hg:∀i,i<w.h.next->h'.get i=w.h.get i:=ag.get
 let w':Wd:=⟨h',w.z,λi hi=>by rw[hn];exact Km (w.nJ i hi)⟩
 have hle:w.Le w':=⟨by show _<=h'.next;omega,λ_ h=>h,λi hi=>hg i (w.nJ i hi)⟩
 obtain⟨S,h1,h2,h3⟩:=s.own;have hnx:w'.h.next=w.h.next+1:=hn
 refine⟨w',rfl,⟨by have:=s.agree.next;omega,λi hi hb=>(hg i (mM hi s.agree.next)).trans (s.agree.get i hi hb),λa b=>?_⟩,s.le.trans hle,s.gF,
  ⟨[w.h.next]++S,⟨[w.h.next],S,⟨rfl,at_.2⟩,fI.loc hle (λi hi=>hg i (h3 i hi).2.1) h1,rfl⟩,?_,?_⟩,λf hf=>f.mono hle (s.facts f hf)⟩
 ·have hl:=s.agree.low a b;have:=s.agree.next
  show h'.low=_;rw[ag.low (by omega),hl]
 ·refine yD.2 ⟨λhm=>?_,h2⟩;have:=(h3 _ hm).2.1;omega
 ·intro i hi;rcases dX.1 hi with hi|hi
  ·rw[bM.1 hi];exact⟨.inl s.agree.next,by omega,λhz=>absurd (w.nJ _ hz) (Nat.lt_irrefl _)⟩
  ·exact⟨(h3 i hi).1,by have:=(h3 i hi).2.1;omega,(h3 i hi).2.2⟩
theorem acf{α:Type}{E:Enc α}{e:TypeId}{size bytes b':Nat}{s x:Operand}{v:Value}{xs:List α}{a:α}{y:E.Y}{cs:List Value}{k1 k2:List OA}(hn:Nat.blt d n=true)(hg:cZ l g=true)
 (hs:ev l s=v) (hx:ev l x=.slice (some ⟨b',0,some 0⟩) 1 1) (hk:az (ap E v xs) kl k1) (hc:az (pt b' (.cells cs)) k1 k2) (hp:cs=E.pat a y) (hF:Sub (E.fs a y) F) (hz:E.n=size)
 (hm:(xs.length+1)*bytes<=1073741824/\(xs.length+1)*size<=1073741824/\xs.length+1<=1073741824):
 dQ (R (λh=>aH P ds (⟨⟨some d,g,.append e size bytes s x⟩,[]⟩::rest) (act n l D pm ro) h K) B w0 kl F)
  (∀v',R (λh=>aH P ds rest (act n ((d,v')::l) D pm ro) h K) B w0 (ap E v' (xs++[a])::k2) F):=by
 refine⟨λr w st=>?_⟩;subst hp hz;have hlen:=E.len a y;have st2:St B w0 (ap E v xs::pt b' (.cells (E.pat a y))::k2) F w:=st.kv (.cons hk (.cons hc .nil));have hat:At w.h b' (.cells (E.pat a y)):=st2.at_ (.there .here);have rJ:St B w0 (ap E v xs::k2) F w:=(st2.gq (.there .here)).tail;have hfs:∀f∈E.fs a y,f.p w:=λf hf=>st.facts f (hF.mem f hf);have hread:w.h.iM b' 0 (1*E.n)=some (E.pat a y):=by
  rw[hat.c.iM,p9,qD,BL,DC,if_pos (by omega),<- hlen,bU]
 have hx1:oW (ev l x)=some (0+1):=by rw[hx];rfl
 have hx2:nE E.n (0+1) (ev l x) w.h=some (E.pat a y):=by rw[hx];exact hread
 -- what lies there afterwards
 have put:∀(w':Wd) (c:Nat) (f:Nat) (cells:List Value),cells.length=xs.length*E.n->(∀(k:Nat) z,xs[k]? =some z->∃y,(∀(j:Nat) u,(E.pat z y)[j]? =some u->cells[k*E.n+j]? =some u)/\∀f∈E.fs z y,f.p w')->(∀f∈E.fs a y,f.p w')->
  (f=0\/f=E.n)->∀S,(pt c (.cells (cells++E.pat a y))).p w' S->(ap E (.slice (some ⟨c,0,some f⟩) (xs.length+1) (xs.length+1)) (xs++[a])).p w' S:=by
  intro w' c f cells h1 h2 h3 h4 S hp;refine .inr ⟨c,0,f,_,by rw[iH];rfl,h4,hp.1,hp.2,by rw[iH,iH,h1,hlen,zS,ru,BL,fo],λk z hk=>?_⟩;by_cases hlt:k<xs.length
  ·rw[qp hlt]at hk;obtain⟨y',q1,q2⟩:=h2 k z hk;refine⟨y',λj u hj=>?_,q2⟩;rw[fo];have:=q1 j u hj;rw[qp (bq.1 this).1];exact this
  ·rw[pR (by omega)]at hk;have hk0:k=xs.length:=by
    have:=(bq.1 hk).1;simp at this;omega
   subst hk0;simp at hk;subst hk;refine⟨y,λj u hj=>?_,h3⟩;rw[fo,pR (by omega),h1,XJ];exact hj
 obtain⟨S,⟨S1,S2,q,q2,e1⟩,hnd,hown⟩:=rJ.own;rcases q with⟨rfl,rfl,rfl⟩|⟨b,o,f,cells,rfl,hf,rfl,hb,hcl,hel⟩
 ·refine abf (c:=0) hn hg hs hx1 hx2 (by simpa using hm) λh' ag uS hnx=>?_;obtain⟨w',rfl,kz⟩:=rJ.tail.fresh ag uS hnx;refine r _ w' (kz.Cv λS hp=>?_);have hle:∀f∈E.fs a y,f.p w':=λf hf=>kz.facts f (hF.mem f hf);exact put w' _ E.n [] (by simp) (λk z hk=>by cases hk) hle (.inr rfl) S hp
 ·have EK:St B w0 (pt b (.cells cells)::k2) F w:=⟨rJ.agree,rJ.le,rJ.gF,⟨S,⟨_,S2,⟨rfl,hb⟩,q2,e1⟩,hnd,hown⟩,rJ.facts⟩
  have MC:At w.h b (.cells cells):=EK.at_ .here;refine Mk (old:=cells.drop o) (xs:=E.pat a y) hn hg hs hx1 hx2 ?_ (hf.elim (λe=>.inl (by rw[e])) λe=>.inr (by rw[e])) hm λh' mv=>?_
  ·have hdl:(cells.drop o).length=xs.length*E.n:=by rw[sO];omega
   rw[MC.c.iM,p9,qD,if_pos (by omega),<- hdl,bU]
  obtain⟨w',rfl,kz,EL⟩:=EK.move mv;refine r _ w' (kz.Cv λS hp=>?_);have hle:∀f∈E.fs a y,f.p w':=λf hf=>kz.facts f (hF.mem f hf);refine put w' _ E.n (cells.drop o) (by rw[sO];omega) (λk z hk=>?_) hle (.inr rfl) S hp;obtain⟨y',u1,u2⟩:=hel k z hk;exact⟨y',λj u hj=>by rw[oO,<- qw];exact u1 j u hj,λf hf=>f.mono EL (u2 f hf)⟩
theorem acg{x i:Operand}{v:Value}{xs:List Int}{z:Int}{k:Nat}{kk:IntKind}{d2:Nat}{g2:Option (Tmp×Bool)}(hn:Nat.blt d n=true)(hg:cZ l g=true)(hn2:Nat.blt d2 n=true)(hg2:∀u,cZ ((d,u)::l) g2=true)(hx:ev l x=v)(hi:ev l i=.int kk (k:Int))
 (hk:az (ap ae v xs) kl kl') (hz:xs[k]? =some z):
 dQ (R (λh=>aH P ds (⟨⟨some d,g,.nQ 1 x i⟩,[]⟩::⟨⟨some d2,g2,.gQ (.tmp d)⟩,[]⟩::rest) (act n l D pm ro) h K) B w0 kl F)
  (∀b o,R (λh=>aH P ds rest (act n ((d2,.int .i64 z)::(d,.pointer (some ⟨b,o,none⟩))::l) D pm ro) h K) B w0 kl F):=by
 refine⟨λr w s=>?_⟩;have s1:=s.gq hk;obtain⟨S,⟨S1,S2,p,p2,e⟩,h2,h3⟩:=s1.own;have hlt:=(bq.1 hz).1;rcases p with⟨h,_⟩|⟨b,o,f,cells,e1,hf,e2,hb,hcl,hel⟩
 ·rw[h]at hz;cases hz
 ·subst e1;obtain⟨y,u1,_⟩:=hel k z hz;have hc:cells[o+(k:Int).toNat*1]? =some (.int .i64 z):=by
   have:=u1 0 (.int .i64 z) rfl;simpa[ae]using this
  refine Mj hn hg hx hi (by omega) (by omega) ?_;have hbS:b∈S:=by rw[e,e2];simp
  exact Hg hn2 (hg2 _) (by show lk _ d=_;simp[lk]) ⟨(h3 b hbS).2.1,hb⟩ hc (r _ _ w s)
end
end Go.Ideal
namespace Go.Ideal
variable {P:Program} {ρ:Operand->Value}
theorem rM{t:TypeId}{d:TypeDesc}(ht:P.underlying t=some d):eD P (underlying t)=some d:=by
 unfold underlying;rw[ig];show(some P).bind _=_;simp only[Option.bind,ht];rfl
theorem Cx{op:BinOp}{t:TypeId}{x y:Operand}{a b:Value}(ha:∀c,a≠.agg c)(hn:a≠.nilIface):eD P (eqGuard op t x y a b)=some ():=by
 cases a with
 |nilIface=>exact absurd rfl hn
 |agg c=>exact absurd rfl (ha c)
 |_=>cases op<;>rfl
theorem Si{t:TypeId}{x y:Operand}{a b:Bool}(ht:P.underlying t=some .bool):mg P .eql t x y (.bool a) (.bool b)=some (.bool (a==b))/\mg P .neq t x y (.bool a) (.bool b)=some (.bool (a !=b)):=by
 have he:eD P (Op.equal t (.bool a) (.bool b))=some (a==b):=by
  show eD P (Op.equalIn (9999+1) t (.bool a) (.bool b))=_;unfold Op.equalIn;rw[ig,rM ht];rfl
 have h1:kK P (do eqGuard .eql t x y (.bool a) (.bool b);binOp .eql t (.bool a) (.bool b))=some (.bool (a==b)):=by
  unfold kK;rw[ig,Cx (by intro c e;cases e) (by intro e;cases e)];simp only[iX,binOp];rw[ig,he];rfl
 have h2:kK P (do eqGuard .neq t x y (.bool a) (.bool b);binOp .neq t (.bool a) (.bool b))=some (.bool (a !=b)):=by
  unfold kK;rw[ig,Cx (by intro c e;cases e) (by intro e;cases e)];simp only[iX,binOp];rw[ig,he];rfl
 exact⟨h1,h2⟩
theorem Iu{x y:Operand}{t:TypeId}{a b:Bool}(hx:ρ x=.bool a)(hy:ρ y=.bool b)(ht:P.underlying t=some .bool):Pu P ρ (.bin .eql t x y) (.bool (a==b)):=λh=>by
 simp only[aF.run,hx,hy,(Si ht).1]
theorem Iw{x y:Operand}{t:TypeId}{a b:Bool}(hx:ρ x=.bool a)(hy:ρ y=.bool b)(ht:P.underlying t=some .bool):Pu P ρ (.bin .neq t x y) (.bool (a !=b)):=λh=>by
 simp only[aF.run,hx,hy,(Si ht).2]
theorem Sj{op:BinOp}{t:TypeId}{x y:Operand}{a b:ByteArray}{v:Value}(hv:eD P (Op.stringOp op a b)=some v)(hf:cK v=true):mg P op t x y (.string a) (.string b)=some v:=by
 have h1:kK P (do eqGuard op t x y (.string a) (.string b);binOp op t (.string a) (.string b))=some v:=by
  unfold kK;rw[ig,Cx (by intro c e;cases e) (by intro e;cases e)];have hb:binOp op t (.string a) (.string b)=Op.stringOp op a b:=by cases op<;>rfl
  simp only[iX,hb,hv,hf,cond]
 exact h1
theorem Iy{x y:Operand}{t:TypeId}{a b:ByteArray}(hx:ρ x=.string a)(hy:ρ y=.string b):Pu P ρ (.bin .eql t x y) (.bool (a.toList==b.toList)):=λh=>by
 simp only[aF.run,hx,hy,Sj (op:=.eql) (v:=.bool (a.toList==b.toList)) rfl rfl]
theorem Iz{x y:Operand}{t:TypeId}{a b:ByteArray}(hx:ρ x=.string a)(hy:ρ y=.string b):Pu P ρ (.bin .neq t x y) (.bool (!(a.toList==b.toList))):=λh=>by
 simp only[aF.run,hx,hy,Sj (op:=.neq) (v:=.bool (!(a.toList==b.toList))) rfl rfl]
theorem EM{op:BinOp}{t:TypeId}{x y:Operand}{a b:Int}{v:Value}(hq:oZ op .i64 a b=none)(hv:eD P (binOp op t (.int .i64 a) (.int .i64 b))=some v)(hf:cK v=true):mg P op t x y (.int .i64 a) (.int .i64 b)=some v:=by
 have h1:kK P (do eqGuard op t x y (.int .i64 a) (.int .i64 b);binOp op t (.int .i64 a) (.int .i64 b))=some v:=by
  unfold kK;rw[ig,Cx (by intro c e;cases e) (by intro e;cases e)];simp only[iX,hv,hf,cond]
 unfold mg;simp only[uA,cond,hq,cK,Kl];exact h1
theorem wrap64{m:Int}(h1: -9223372036854775808<=m)(h2:m<9223372036854775808):IntKind.i64.wrap m=m:=IntWalk.i64_in m ⟨h1,by omega⟩
theorem IA{x y:Operand}{t:TypeId}{a b:Int}(hx:ρ x=.int .i64 a)(hy:ρ y=.int .i64 b)(h1: -9223372036854775808<=a*b)(h2:a*b<9223372036854775808):Pu P ρ (.bin .mul t x y) (.int .i64 (a*b)):=λh=>by
 simp only[aF.run,hx,hy];rw[EM (op:=.mul) (v:=.int .i64 (a*b)) rfl (by
  show eD P (Op.intArith .mul .i64 a b)=_;show some (Value.int .i64 (IntKind.i64.wrap (a*b)))=_;rw[wrap64 h1 h2]) rfl]
theorem EN{x y:Operand}{t:TypeId}{a b:Int}(hx:ρ x=.int .i64 a)(hy:ρ y=.int .i64 b)(hb:b≠0)(h1: -9223372036854775808<=a.tdiv b)(h2:a.tdiv b<9223372036854775808):Pu P ρ (.bin .quo t x y) (.int .i64 (a.tdiv b)):=λh=>by
 simp only[aF.run,hx,hy];rw[EM (op:=.quo) (v:=.int .i64 (a.tdiv b)) rfl (by
  show eD P (Op.intDiv .quo .i64 a b)=_;unfold Op.intDiv;rw[if_neg hb];show some (Value.int .i64 (IntKind.i64.wrap (a.tdiv b)))=_;rw[wrap64 h1 h2]) rfl]
theorem AC{x y:Operand}{t:TypeId}{a b:Int}(hx:ρ x=.int .i64 a)(hy:ρ y=.int .i64 b)(hb:b≠0):Pu P ρ (.bin .rem t x y) (.int .i64 (a.tmod b)):=λh=>by
 simp only[aF.run,hx,hy];rw[EM (op:=.rem) (v:=.int .i64 (a.tmod b)) rfl (by
  show eD P (Op.intDiv .rem .i64 a b)=_;unfold Op.intDiv;rw[if_neg hb];rfl) rfl]
theorem IB{x i:Operand}{size b o m c k:Nat}{f:Option Nat}{kk:IntKind}(hx:ρ x=.slice (some ⟨b,o,f⟩) m c)(hi:ρ i=.int kk (k:Int))(h1:k<m):
 Pu P ρ (.nQ size x i) (.pointer (some ⟨b,o+k*size,none⟩)):=EJ (k:=(k:Int)) hx hi (by omega) (by omega)
end Go.Ideal
namespace Go.Ideal
variable {P:Program}
def Left{Y:Type}(B:List Nat)(w0:Wd)(val:Y->Value)(kl':Y->List OA)(fs:Y->List aO)(pr:Y->Prop):KR:=λr pm h'=>
 pm=none/\∃(w':Wd) (y:Y),w'.h=h'/\St B w0 (kl' y) (fs y) w'/\r=.ok (val y)/\pr y
def bA{Y:Type}(P:Program)(fn:Fn)(args cap:List Value)(kl:List OA)(F:List aO)(val:Y->Value)(kl':Y->List OA)(fs:Y->List aO)(pr:Y->Prop):Prop:=
 ∀(B:List Nat) (w:Wd),St B w kl F w->CALL P ⟨fn,args,cap,none⟩ w.h (Left B w val kl' fs pr)
def qg:Nat->List Value->List (Nat×Value)->List (Nat×Value)
 |_,[],l=>l
 |i,v::vs,l=>qg (i+1) vs ((i,v)::l)
theorem Sk:∀(args:List Value) (i:Nat) (l:List (Nat×Value)),wY args i (iV l)=iV (qg i args l)
 |[],i,l=>rfl
 |v::vs,i,l=>by
  show wY vs (i+1) (iV ((i,v)::l))=_;rw[Sk vs];rfl
theorem ME(n:Nat)(args:List Value)(pm:Option FrameMode):Ab n args pm=act (rD n (iL args)) (qg 0 args []) [] pm none:=by
 show aV.mk _ (wY args 0 (iV [])) _ _ _=_;rw[Sk];rfl
theorem ach{Y:Type}{f:FuncId}{args cap:List Value}{kl:List OA}{F:List aO}{val:Y->Value}{kl':Y->List OA}{fs:Y->List aO}{pr:Y->Prop}(cf:gV)(hF:(pX P qC pY).F f=some cf)
 (hb:∀B w0,R (λh=>EV P cf.body (act (rD cf.ntmps (iL (args++cap))) (qg 0 (args++cap) []) [] none none) h (Cs cf (Left B w0 val kl' fs pr))) B w0 kl F):bA P (.func f) args cap kl F val kl' fs pr:=by
 intro B w s;obtain⟨fn,h1,h2⟩:=(Cr P qC pY (λf q h v h' hm=>by cases hm)).fn f cf hF;refine aa4 fn h1 cf h2 ?_;rw[ME];exact hb B w w s
section
variable {B:List Nat} {w0:Wd} {kl kl' bH:List OA} {F:List aO} {K:KO} {ds:List Tmp} {rest:List bV} {n:Nat} {l:List (Nat×Value)} {D:List Deferred} {pm:Option FrameMode} {ro:Option Nat} {d:Nat} {g:Option (Tmp×Bool)}
theorem St.call{w w':Wd}{k1 k1' bH:List OA}{F1 F':List aO}{S1 S2:List Nat}(s:St B w0 kl F w)(hp:∃S:List Nat,S.Perm (S1++S2)/\S.Nodup/\∀i∈S,(w0.h.next<=i\/i∈B)/\i<w.h.next/\¬w.z i)
 (h2:fI w bH S2) (c:St S1 w k1' F' w'):St B w0 (k1'++bH) (F'++F) w':=by
 obtain⟨S,hperm,aci,hall⟩:=hp;have hnd:=hperm.nodup aci;have hall:∀i∈S1++S2,(w0.h.next<=i\/i∈B)/\i<w.h.next/\¬w.z i:=λi hi=>hall i (hperm.mem_iff.2 hi)
 have hd:=iT.1 hnd;obtain⟨S',c1,c2,c3⟩:=c.own;have hsame:∀i∈S2,w'.h.get i=w.h.get i:=λi hi=>c.agree.get i (hall i (nA _ hi)).2.1 (λhm=>hd.2.2 i hm i hi rfl);refine⟨⟨pQ s.agree.next c.agree.next,λi hi hB=>?_,λa b=>?_⟩,s.le.trans c.le,λi hi hz=>?_,⟨S'++S2,c1.app (fI.loc c.le hsame h2),?_,?_⟩,λf hf=>?_⟩
 ·rw[<- s.agree.get i hi hB];refine c.agree.get i (mM hi s.agree.next) (λhm=>?_);rcases(hall i (je _ hm)).1 with q|q
  ·omega
  ·exact hB q
 ·have hl:=s.agree.low a b;rw[c.agree.low (by rw[hl];exact pQ a s.agree.next) (λi hi=>?_),hl];rw[hl];rcases(hall i (je _ hi)).1 with q|q
  ·omega
  ·exact b i q
 ·rcases c.gF i (mM hi s.agree.next) hz with q|q
  ·exact s.gF i hi q
  ·rcases(hall i (je _ q)).1 with u|u
   ·omega
   ·exact .inr u
 ·refine iT.2 ⟨c2,hd.2.1,λa ha b hb e=>?_⟩;subst e;rcases(c3 a ha).1 with q|q
  ·have:=(hall a (nA _ hb)).2.1;omega
  ·exact hd.2.2 a q a hb rfl
 ·intro i hi;rcases dX.1 hi with hi|hi
  ·refine⟨?_,(c3 i hi).2⟩;rcases(c3 i hi).1 with q|q
   ·exact .inl (pQ s.agree.next q)
   ·exact(hall i (je _ q)).1
  ·have q:=hall i (nA _ hi);refine⟨q.1,mM q.2.1 c.agree.next,λhz=>?_⟩;rcases c.gF i q.2.1 hz with u|u
   ·exact q.2.2 u
   ·exact hd.2.2 i u i hi rfl
 ·rcases dX.1 hf with hf|hf
  ·exact c.facts f hf
  ·exact f.mono c.le (s.facts f hf)
def Same(P:Program)(re:List iq)(ρ:Operand->Value)(l:List (Nat×Value))(B:List Nat)(w0:Wd)(kl:List OA)(F:List aO):Prop:=
 ∀w,St B w0 kl F w->∀r∈re,∃u h2,r.op.run P ρ w.h=some (u,h2)/\∀d',r.dst=some d'->lk l d'=u
theorem yZ{ρ:Operand->Value}:Same P [] ρ l B w0 kl F:=λw s r hr=>by cases hr
theorem AJ{re:List iq}{x:Operand}{b o:Nat}{cs:List Value}{v:Value}(hx:ev l x=.pointer (some ⟨b,o,none⟩))(hk:az (pt b (.cells cs)) kl kl')(hv:jU cs o=some v)(hd:lk l d=v)
 (t:Same P re (ev l) l B w0 kl F):Same P (⟨some d,g,.gQ x⟩::re) (ev l) l B w0 kl F:=λw s r hr=>by
 rcases dx.1 hr with rfl|hr
 ·have hc:w.h.om b o=some v:=by rw[(s.at_ hk).c.om,<- sZ];exact hv
  exact⟨v,w.h,by simp only[aF.run,hx,hc],λd' e=>by cases e;exact hd⟩
 ·exact t w s r hr
theorem Cy{re:List iq}{x:Operand}{b o:Nat}{cs:List Value}{v:Value}(hx:ev l x=.pointer (some ⟨b,o,none⟩))(hk:gY b o cs∈F)(hv:jU cs 0=some v)(hd:lk l d=v)
 (t:Same P re (ev l) l B w0 kl F):Same P (⟨some d,g,.gQ x⟩::re) (ev l) l B w0 kl F:=λw s r hr=>by
 rcases dx.1 hr with rfl|hr
 ·exact⟨v,w.h,by simp only[aF.run,hx,show w.h.om b o=some v from Iq (j:=0) (s.facts _ hk) hv],λd' e=>by cases e;exact hd⟩
 ·exact t w s r hr
theorem EO{re:List iq}{x:Operand}{b o j:Nat}{cs:List Value}{v:Value}(hx:ev l x=.pointer (some ⟨b,o+j,none⟩))(hk:gY b o cs∈F)(hv:jU cs j=some v)(hd:lk l d=v)
 (t:Same P re (ev l) l B w0 kl F):Same P (⟨some d,g,.gQ x⟩::re) (ev l) l B w0 kl F:=λw s r hr=>by
 rcases dx.1 hr with rfl|hr
 ·exact⟨v,w.h,by simp only[aF.run,hx,Iq (s.facts _ hk) hv],λd' e=>by cases e;exact hd⟩
 ·exact t w s r hr
theorem EP{re:List iq}{x:Operand}{b o m:Nat}{cs c:List Value}(hx:ev l x=.pointer (some ⟨b,o,none⟩))(hk:az (pt b (.cells cs)) kl kl')(hv:jf (jH cs o) m=some c)(hd:lk l d=.agg ⟨c⟩)
 (t:Same P re (ev l) l B w0 kl F):Same P (⟨some d,g,.pW m x⟩::re) (ev l) l B w0 kl F:=λw s r hr=>by
 rcases dx.1 hr with rfl|hr
 ·have hc:w.h.iM b o m=some c:=by rw[(s.at_ hk).c.iM];exact hv
  exact⟨.agg ⟨c⟩,w.h,by simp only[aF.run,hx,hc],λd' e=>by cases e;exact hd⟩
 ·exact t w s r hr
theorem EQ{re:List iq}{x:Operand}{b o m:Nat}{cs c:List Value}(hx:ev l x=.pointer (some ⟨b,o,none⟩))(hk:gY b o cs∈F)(hv:jf cs m=some c)(hd:lk l d=.agg ⟨c⟩)
 (t:Same P re (ev l) l B w0 kl F):Same P (⟨some d,g,.pW m x⟩::re) (ev l) l B w0 kl F:=λw s r hr=>by
 rcases dx.1 hr with rfl|hr
 ·exact⟨.agg ⟨c⟩,w.h,by simp only[aF.run,hx,show w.h.iM b o m=some c from Ir (j:=0) (s.facts _ hk) (by rw[p9];exact hv)],λd' e=>by cases e;exact hd⟩
 ·exact t w s r hr
theorem ER{re:List iq}{x:Operand}{b o j m:Nat}{cs c:List Value}(hx:ev l x=.pointer (some ⟨b,o+j,none⟩))(hk:gY b o cs∈F)(hv:jf (jH cs j) m=some c)(hd:lk l d=.agg ⟨c⟩)
 (t:Same P re (ev l) l B w0 kl F):Same P (⟨some d,g,.pW m x⟩::re) (ev l) l B w0 kl F:=λw s r hr=>by
 rcases dx.1 hr with rfl|hr
 ·exact⟨.agg ⟨c⟩,w.h,by simp only[aF.run,hx,Ir (s.facts _ hk) hv],λd' e=>by cases e;exact hd⟩
 ·exact t w s r hr
theorem MF{re:List iq}{op:aF}{v:Value}(hp:Pu P (ev l) op v)(hd:lk l d=v)(t:Same P re (ev l) l B w0 kl F):Same P (⟨some d,g,op⟩::re) (ev l) l B w0 kl F:=λw s r hr=>by
 rcases dx.1 hr with rfl|hr
 ·exact⟨v,w.h,hp w.h,λd' e=>by cases e;exact hd⟩
 ·exact t w s r hr
theorem MG{x y:Operand}{b o m:Nat}{cs vs c:List Value}{v:Value}{re:List iq}(hg:cZ l g=true)(hx:ev l x=.pointer (some ⟨b,o,none⟩))(hw:ev l y=v)(hy:cellsOf v=some vs)(hm:Nat.beq (iL vs) m=true)
 (hk:az (pt b (.cells cs)) kl kl') (hv:jV cs o vs=some c) (hs:Same P re (ev l) l B w0 (pt b (.cells c)::kl') F):
 dQ (R (λh=>aH P ds (⟨⟨none,g,.store m x y⟩,re⟩::rest) (act n l D pm ro) h K) B w0 kl F) (R (λh=>aH P ds rest (act n l D pm ro) h K) B w0 (pt b (.cells c)::kl') F):=
 ⟨λr w s=>by
  subst hw;have s':=(s.gq hk).write (o':=.cells c);refine .lu (vV hg) dU (w.h.set b (.cells c)) (by rw[nI];simp only[aF.run,hx,hy,hm];simp only[IH.storeAt,(s.at_ hk).2,hv];rfl) (λq hq _=>?_) (r _ s');obtain⟨u,h2,e1,e2⟩:=hs _ s' q hq;exact⟨u,h2,by show q.op.run P (act n l D pm ro).eval _=_;rw[nI];exact e1,λd' hd=>by rw[<- e2 d' hd];exact uQ _ _⟩⟩
theorem acj{op:aF}{v:Value}{re:List iq}(hn:Nat.blt d n=true)(hg:cZ l g=true)(hp:Pu P (ev l) op v)(hs:Same P re (ev ((d,v)::l)) ((d,v)::l) B w0 kl F):
 dQ (R (λh=>aH P ds (⟨⟨some d,g,op⟩,re⟩::rest) (act n l D pm ro) h K) B w0 kl F) (R (λh=>aH P ds rest (act n ((d,v)::l) D pm ro) h K) B w0 kl F):=
 ⟨λr w s=>by
  refine .lu (vV hg) v w.h (by rw[nI];exact hp w.h) (λq hq _=>?_) (by rw[qf hn];exact r w s);obtain⟨u,h2,e1,e2⟩:=hs w s q hq;rw[qf hn];exact⟨u,h2,by rw[nI];exact e1,λd' hd=>by rw[<- e2 d' hd];exact uQ _ _⟩⟩
theorem ack{Y:Type}{f:Operand}{xs:List Operand}{re:List iq}{fn:Fn}{first captured vs as:List Value}{k1:List OA}{F1:List aO}{val:Y->Value}{k1':Y->List OA}{fs:Y->List aO}{pr:Y->Prop}
 (hc:bA P fn as captured k1 F1 val k1' fs pr) (hn:Nat.blt d n=true) (hg:cZ l g=true) (hf:ev l f=.func fn ⟨first⟩ ⟨captured⟩) (hx:EvL (ev l) xs vs) (ha:first++vs=as)
 (hk:aI k1 kl bH) (hF:Sub F1 F)
 (hs:∀y,pr y->Same P re (ev ((d,val y)::l)) ((d,val y)::l) B w0 (k1' y++bH) (fs y++F))
 (next:∀y,pr y->R (λh=>aH P ds rest (act n ((d,val y)::l) D pm ro) h K) B w0 (k1' y++bH) (fs y++F)):
 R (λh=>aH P ds (⟨⟨some d,g,.call f xs⟩,re⟩::rest) (act n l D pm ro) h K) B w0 kl F:=by
 intro w s;obtain⟨S,h1,h2,h3⟩:=s.own;obtain⟨S1,S2,q1,q2,hp⟩:=h1.kv hk;have hsub:∀i∈S1,i∈S:=λi hi=>hp.mem_iff.2 (je _ hi);have s1:St S1 w k1 F1 w:=⟨⟨bT _,λ_ _ _=>rfl,λ_ _=>rfl⟩,Wd.Le.refl w,λi _ hz=>.inl hz,⟨S1,q1,(iT.1 (hp.nodup h2)).1,λi hi=>⟨.inr hi,(h3 i (hsub i hi)).2⟩⟩,λf hf=>s.facts f (hF.mem f hf)⟩
 have hcall:=hc S1 w s1;subst ha;rw[<- hx.map]at hcall;have back:∀(w':Wd) (y:Y),St S1 w (k1' y) (fs y) w'->St B w0 (k1' y++bH) (fs y++F) w':=λw' y c=>s.call (k1:=k1) (F1:=F1) ⟨S,hp,h2,h3⟩ q2 c;refine s_call hn hg fn hf _ hcall ?_ ?_ ?_ ?_
 ·rintro v h' ⟨_,w',y,rfl,c,hv,hpr⟩;injection hv with hv;subst hv;exact hs y hpr w' (back w' y c)
 ·rintro v h' ⟨_,w',y,rfl,c,hv,hpr⟩;injection hv with hv;subst hv;exact next y hpr w' (back w' y c)
 ·rintro ch h' ⟨_,w',y,rfl,c,hv,hpr⟩;cases hv
 ·rintro r p h' ⟨e,_⟩;exact e
inductive RS(l:List (Nat×Value))(kl:List OA):List qz->List Value->Prop
 |nil:RS l kl [] []
 |tmp {t:Tmp} {rs:List qz} {v:Value} {vs:List Value} (h:lk l t=v) (r:RS l kl rs vs):RS l kl (.tmp t::rs) (v::vs)
 |cell1 {t:Tmp} {rs:List qz} {v:Value} {vs cs:List Value} {b o:Nat} {kl':List OA} (h:lk l t=.pointer (some ⟨b,o,none⟩)) (hk:az (pt b (.cells cs)) kl kl') (hv:jU cs o=some v) (r:RS l kl rs vs):RS l kl (.cell1 t::rs) (v::vs)
 |qA {n:Nat} {t:Tmp} {rs:List qz} {vs cs c:List Value} {b o:Nat} {kl':List OA} (h:lk l t=.pointer (some ⟨b,o,none⟩)) (hk:az (pt b (.cells cs)) kl kl') (hv:jf (jH cs o) n=some c) (r:RS l kl rs vs):
   RS l kl (.qA n t::rs) (.agg ⟨c⟩::vs)
theorem RS.all{w:Wd}(s:St B w0 kl F w):∀{rs:List qz} {vs:List Value},RS l kl rs vs->wZ (iV l) w.h rs=some vs
 |_,_,.nil=>rfl
 |_,_,.tmp (t:=t) (rs:=rs) (v:=v) (vs:=vs) h r=>by
  have ih:=RS.all s r;show(match sW (iV l) w.h (.tmp t),wZ (iV l) w.h rs with|some v,some vs=>some (v::vs)|_,_=>none)=_;rw[ih];simp only[sW,uQ,h]
 |_,_,.cell1 (t:=t) (rs:=rs) (v:=v) (vs:=vs) h hk hv r=>by
  have ih:=RS.all s r;show(match sW (iV l) w.h (.cell1 t),wZ (iV l) w.h rs with|some v,some vs=>some (v::vs)|_,_=>none)=_;rw[ih];simp only[sW,uQ,h,(s.at_ hk).2,hv]
 |_,_,.qA (n:=n) (t:=t) (rs:=rs) (vs:=vs) (c:=c) h hk hv r=>by
  have ih:=RS.all s r;show(match sW (iV l) w.h (.qA n t),wZ (iV l) w.h rs with|some v,some vs=>some (v::vs)|_,_=>none)=_;rw[ih];simp only[sW,uQ,h,IH.nR,(s.at_ hk).2,hv]
def rO(vs:List Value):Value:=
 match vs with
 |[v]=>v
 |vs=>.tuple ⟨vs⟩
theorem Sl{Y:Type}{o:Out}{cf:gV}{vs:List Value}{val:Y->Value}{k1:Y->List OA}{fs:Y->List aO}{pr:Y->Prop}(y:Y)(hr:RS l kl cf.results vs)(hv:rO vs=val y)(hp:pr y)(hk:aI (k1 y) kl bH)(hF:Sub (fs y) F)
 (ho:o=.normal\/o=.ret):R (λh=>Cs cf (Left B w0 val k1 fs pr) o (act n l [] none ro) h) B w0 kl F:=by
 intro w s;have h1:qB cf.results (iV l) w.h=some (val y):=by
  unfold qB;rw[hr.all s];rw[<- hv];match vs with
  |[]=>rfl
  |[v]=>rfl
  |_::_::_=>rfl
 have h2:Left B w0 val k1 fs pr (.ok (val y)) none w.h:=⟨rfl,w,y,rfl,((s.kv hk).drop).sub hF,rfl,hp⟩
 rcases ho with rfl|rfl
 ·exact⟨val y,h1,rfl,h2⟩
 ·exact⟨val y,h1,rfl,h2⟩
inductive lT{α:Type}(F0:List α):List α->Prop
 |here:lT F0 F0
 |cons {a:α} {F:List α} (h:lT F0 F):lT F0 (a::F)
 |app {G F:List α} (h:lT F0 F):lT F0 (G++F)
theorem lT.mem{α:Type}{F0:List α}:∀{F:List α},lT F0 F->∀f∈F0,f∈F
 |_,.here,f,hf=>hf
 |_,.cons h,f,hf=>cO _ (h.mem f hf)
 |_,.app h,f,hf=>nA _ (h.mem f hf)
inductive rP:List (Nat×Value)->List (Nat×Value)->List (Nat×Value)->Prop
 |nil {ks:List (Nat×Value)}:rP [] ks []
 |drop {k:Nat} {v:Value} {l ks r:List (Nat×Value)} (h:(ks.any λp=>Nat.beq p.1 k)=true) (t:rP l ks r):rP ((k,v)::l) ks r
 |keep {k:Nat} {v:Value} {l ks r:List (Nat×Value)} (h:(ks.any λp=>Nat.beq p.1 k)=false) (t:rP l ((k,v)::ks) r):rP ((k,v)::l) ks ((k,v)::r)
def LI{X:Type}(n:Nat)(D:List Deferred)(pm:Option FrameMode)(ro:Option Nat)(B:List Nat)(w0:Wd)(m:X->Nat)(L:X->List (Nat×Value))(KL:X->List OA)(FF:X->List aO)(inv:X->Prop)
 (l0:List (Nat×Value)) (bH:List OA) (F0:List aO):Nat->aV->IH->Prop:=λr a h=>
 ∃(x:X) (w:Wd),r=m x/\a=act n (L x++l0) D pm ro/\w.h=h/\St B w0 (KL x++bH) (FF x++F0) w/\inv x
theorem acm{X:Type}{c:dI}(m:X->Nat)(L:X->List (Nat×Value))(KL:X->List OA)(FF:X->List aO)(inv:X->Prop)(x0:X)(hi:inv x0)(l0:List (Nat×Value))(hl:sub (L x0++l0) l)(hk:aI (KL x0) kl bH)(hF:Sub (FF x0) F)
 (body:∀x,inv x->R (λh=>EV P c (act n (L x++l0) D pm ro) h (xE (LI n D pm ro B w0 m L KL FF inv l0 bH F) (m x) K)) B w0 (KL x++bH) (FF x++F)):
 R (λh=>EV P (.loop c) (act n l D pm ro) h K) B w0 kl F:=by
 intro w s;refine RB (L9 hl) ?_;refine aa3 (LI n D pm ro B w0 m L KL FF inv l0 bH F) ?_ (m x0) _ _ ⟨x0,w,rfl,rfl,rfl,(s.kv hk).add (λf hf=>s.facts f (hF.mem f hf)),hi⟩;rintro r a h ⟨x,w',rfl,rfl,rfl,s',hx⟩;exact body x hx w' s'
theorem acn{X:Type}{m:X->Nat}{L:X->List (Nat×Value)}{KL:X->List OA}{FF:X->List aO}{inv:X->Prop}{l0:List (Nat×Value)}{fu:List OA}{F0:List aO}{m0:Nat}(x:X)(hm:m x<m0)(hi:inv x)(hl:sub (L x++l0) l)
 (hk:aI (KL x++bH) kl fu) (hF:Sub (FF x) F) (Az:lT F0 F):R (λh=>xE (LI n D pm ro B w0 m L KL FF inv l0 bH F0) m0 K .normal (act n l D pm ro) h) B w0 kl F:=by
 intro w s;refine abe (m x) hm hl ⟨x,w,rfl,rfl,rfl,?_,hi⟩;have s':=(s.kv hk).drop;exact⟨s'.agree,s'.le,s'.gF,s'.own,λf hf=>(dX.1 hf).elim (λhf=>s.facts f (hF.mem f hf)) (λhf=>s.facts f (Az.mem f hf))⟩
end
