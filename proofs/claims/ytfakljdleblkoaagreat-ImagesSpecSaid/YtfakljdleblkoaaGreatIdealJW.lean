/-
  Part IdealJW.
-/
import Derived.Test.YtfakljdleblkoaaGreatIdealHW
set_option linter.all false
namespace Go.Ideal
variable {P:Program}
structure Wd where
 h:IH
 z:Nat->Prop
 ni:∀i,z i->i<h.next
structure Wd.Le(w w':Wd):Prop where
 next:w.h.next<=w'.h.next
 z:∀i,w.z i->w'.z i
 get:∀i,w.z i->w'.h.get i=w.h.get i
theorem Wd.Le.refl(w:Wd):w.Le w:=⟨bV _,λ_ h=>h,λ_ _=>rfl⟩
variable{w w':Wd}
theorem Wd.Le.trans{w'':Wd}(a:w.Le w')(b:w'.Le w''):w.Le w'':=
 ⟨oW a.next b.next,λi h=>b.z i (a.z i h),λi h=>(b.get i (a.z i h)).trans (a.get i h)⟩
structure aK where
 p:Wd->Prop
 mono:∀{w w':Wd},w.Le w'->p w->p w'
def Fz(w:Wd)(b:Nat)(cs:List Value):Prop:=w.z b/\(w.h.get b=some (.cells cs)\/w.h.get b=some (.je cs))
theorem Fz.mono(a:w.Le w'){b:Nat}{cs:List Value}(h:Fz w b cs):Fz w' b cs:=⟨a.z b h.1,by rw[a.get b h.1];exact h.2⟩
theorem Fz.cells{b:Nat}{cs:List Value}(h:Fz w b cs):Cells w.h b cs:=⟨w.ni b h.1,h.2⟩
def fA(b o:Nat)(cs:List Value):aK:=
 ⟨λw=>∃cells,Fz w b cells/\∀(j:Nat) u,cs[j]? =some u->cells[o+j]? =some u,λa ⟨cells,h1,h2⟩=>⟨cells,h1.mono a,h2⟩⟩
structure Enc(α:Type) where
 n:Nat
 Y:Type
 pat:α->Y->List Value
 fs:α->Y->List aK
 len:∀a y,(pat a y).length=n
def LW(n:Nat):Option Addr->Prop
 |none=>True
 |some ⟨_,_,some f⟩=>f=0\/f=n
 |some ⟨_,_,none⟩=>False
def ai{α:Type}(E:Enc α)(v:Value)(xs:List α):aK:=
 ⟨λw=>(xs=[]/\∃a c,v=.slice a 0 c/\LW E.n a)\/∃i o f c cells,(v=.slice (some ⟨i,o,some f⟩) xs.length c/\xs.length<=c/\(f=0\/f=E.n))/\Fz w i cells/\
  ∀(k:Nat) x,xs[k]? =some x->∃y,(∀(j:Nat) u,(E.pat x y)[j]? =some u->cells[o+k*E.n+j]? =some u)/\∀f∈E.fs x y,f.p w,
  λa h=>by
   rcases h with h|⟨i,o,f,c,cells,h1,h2,h3⟩
   ·exact .inl h
   ·refine .inr ⟨i,o,f,c,cells,h1,h2.mono a,λk x hk=>?_⟩;obtain⟨y,q1,q2⟩:=h3 k x hk;exact⟨y,q1,λf hf=>f.mono a (q2 f hf)⟩⟩
def ae:Enc Int:=⟨1,Unit,λx _=>[.int .i64 x],λ_ _=>[],λ_ _=>rfl⟩
def Rc:Enc Bool:=⟨1,Unit,λx _=>[.bool x],λ_ _=>[],λ_ _=>rfl⟩
def bD:Enc ByteArray:=⟨1,Unit,λx _=>[.string x],λ_ _=>[],λ_ _=>rfl⟩
def ak{α:Type}(E:Enc α):Enc (List α):=⟨1,Value,λ_ v=>[v],λxs v=>[ai E v xs],λ_ _=>rfl⟩
structure OA where
 p:Wd->List Nat->Prop
 loc:∀{w w':Wd} {S:List Nat},w.Le w'->(∀i∈S,w'.h.get i=w.h.get i)->p w S->p w' S
def pt(b:Nat)(o:dQ):OA:=⟨λw S=>S=[b]/\w.h.get b=some o,λa h ⟨h1,h2⟩=>⟨h1,by rw[h b zd];exact h2⟩⟩
def ap{α:Type}(E:Enc α)(v:Value)(xs:List α):OA:=
 ⟨λw S=>(xs=[]/\v=.slice none 0 0/\S=[])\/∃b o f cells,v=.slice (some ⟨b,o,some f⟩) xs.length xs.length/\(f=0\/f=E.n)/\S=[b]/\w.h.get b=some (.cells cells)/\cells.length=o+xs.length*E.n/\
  ∀(k:Nat) x,xs[k]? =some x->∃y,(∀(j:Nat) u,(E.pat x y)[j]? =some u->cells[o+k*E.n+j]? =some u)/\∀f∈E.fs x y,f.p w,
  λa h hp=>by
   rcases hp with hp|⟨b,o,f,cells,h1,h2,h3,h4,h5,h6⟩
   ·exact .inl hp
   ·refine .inr ⟨b,o,f,cells,h1,h2,h3,by rw[h b A6];exact h4,h5,λk x hk=>?_⟩;obtain⟨y,q1,q2⟩:=h6 k x hk;exact⟨y,q1,λf hf=>f.mono a (q2 f hf)⟩⟩
def fB(w:Wd):List OA->List Nat->Prop
 |[],S=>S=[]
 |A::kl,S=>∃S1 S2,A.p w S1/\fB w kl S2/\S=S1++S2
theorem fB.loc{w w':Wd}(a:w.Le w'):∀{kl:List OA} {S:List Nat},(∀i∈S,w'.h.get i=w.h.get i)->fB w kl S->fB w' kl S
 |[],S,_,h=>h
 |A::kl,S,hs,⟨S1,S2,h1,h2,e⟩=>⟨S1,S2,A.loc a (λi hi=>hs i (by rw[e];exact jW _ hi)) h1,fB.loc a (λi hi=>hs i (by rw[e];exact oF _ hi)) h2,e⟩
theorem fB.app:∀{k1 k2:List OA} {S1 S2:List Nat},fB w k1 S1->fB w k2 S2->fB w (k1++k2) (S1++S2)
 |[],k2,S1,S2,h1,h2=>by
  have h1:S1=[]:=h1;subst h1;exact h2
 |A::k1,k2,_,S2,⟨T1,T2,q1,q2,e⟩,h2=>⟨T1,T2++S2,q1,q2.app h2,by rw[e,fU]⟩
inductive ay{α:Type}(A:α):List α->List α->Prop
 |here {l:List α}:ay A (A::l) l
 |there {C:α} {l l':List α} (h:ay A l l'):ay A (C::l) (C::l')
inductive aI{α:Type}:List α->List α->List α->Prop
 |nil {l:List α}:aI [] l l
 |cons {A:α} {k l l' l'':List α} (h:ay A l l') (h2:aI k l' l''):aI (A::k) l l''
theorem ay.app{α:Type}{A:α}{l l':List α}(h:ay A l l'):∀k:List α,ay A (k++l) (k++l')
 |[]=>h
 |_::k=>.there (ay.app h k)
theorem aI.self{α:Type}:∀k r:List α,aI k (k++r) r
 |[],_=>.nil
 |_::k,r=>.cons .here (aI.self k r)
variable{α:Type}
theorem aI.all(k:List α):aI k k []:=by
 have:=aI.self k []
 rwa [iI]at this
theorem aI.there{k l l':List α}(A:α)(h:aI k l l'):aI k (A::l) (A::l'):=by
 exact td
theorem fB.gK{w:Wd}{A:OA}:∀{kl kl':List OA} {S:List Nat},ay A kl kl'->fB w kl S->∃S',fB w (A::kl') S'/\S.Perm S'
 |_,_,S,.here,h=>⟨S,h,.refl _⟩
 |_,_,_,.there s,⟨S1,S2,h1,h2,e⟩=>by
  obtain⟨S',⟨T1,T2,q1,q2,e'⟩,hp⟩:=fB.gK s h2;subst e e';refine⟨T1++(S1++T2),⟨T1,_,q1,⟨S1,T2,h1,q2,rfl⟩,rfl⟩,?_⟩;have:(S1++S2).Perm (S1++(T1++T2)):=hp.append_left S1;refine this.trans ?_;exact th
theorem fB.j4{w:Wd}:∀{k kl kl':List OA} {S:List Nat},aI k kl kl'->fB w kl S->∃S1 S2,fB w k S1/\fB w kl' S2/\S.Perm (S1++S2)
 |_,_,_,S,.nil,h=>⟨[],S,rfl,h,.refl _⟩
 |_,_,_,S,.cons s r,h=>by
  obtain⟨S',⟨T1,T2,q1,q2,e⟩,hp⟩:=h.gK s;obtain⟨U1,U2,u1,u2,hu⟩:=fB.j4 r q2;subst e;exact⟨T1++U1,U2,⟨T1,U1,q1,u1,rfl⟩,u2,hp.trans (by rw[fU];exact hu.append_left T1)⟩
inductive Sub{α:Type}:List α->List α->Prop
 |nil {l:List α}:Sub [] l
 |cons {a:α} {k l:List α} (h:a∈l) (h2:Sub k l):Sub (a::k) l
theorem Sub.mem:∀{k l:List α},Sub k l->∀x∈k,x∈l
 |_,_,.nil,x,hx=>by cases hx
 |_,_,.cons h h2,x,hx=>by
  cases hx with
  |head=>exact h
  |tail _ hx=>exact h2.mem x hx
structure aaM(B:List Nat)(h h':IH):Prop where
 next:h.next<=h'.next
 get:∀i,i<h.next->i∉B->h'.get i=h.get i
 low:h.low<=h.next->(∀b∈B,h.low<=b)->h'.low=h.low
structure St(B:List Nat)(w0:Wd)(kl:List OA)(F:List aK)(w:Wd):Prop where
 agree:aaM B w0.h w.h
 le:w0.Le w
 gF:∀i,i<w0.h.next->w.z i->w0.z i\/i∈B
 own:∃S,fB w kl S/\S.Nodup/\∀i∈S,(w0.h.next<=i\/i∈B)/\i<w.h.next/\¬w.z i
 facts:∀f∈F,f.p w
section
variable {B:List Nat} {w0 w:Wd} {kl:List OA} {F:List aK}
variable{kl' k:List OA}
theorem St.j4(s:aI k kl kl')(h:St B w0 kl F w):St B w0 (k++kl') F w:=by
 obtain⟨S,h1,h2,h3⟩:=h.own;obtain⟨S1,S2,q1,q2,hp⟩:=h1.j4 s;exact⟨h.agree,h.le,h.gF,⟨S1++S2,q1.app q2,hp.nodup h2,λi hi=>h3 i (hp.mem_iff.2 hi)⟩,h.facts⟩
variable{A:OA}
theorem St.gK(s:ay A kl kl')(h:St B w0 kl F w):St B w0 (A::kl') F w:=h.j4 (.cons s .nil)
theorem St.drop(h:St B w0 (k++kl') F w):St B w0 k F w:=by
 obtain⟨S,h1,h2,h3⟩:=h.own;have:∀{k:List OA} {S:List Nat},fB w (k++kl') S->∃S1 S2,fB w k S1/\S=S1++S2:=by
  intro k;induction k with
  |nil=>intro S hS;exact⟨[],S,rfl,rfl⟩
  |cons A k ih=>
   rintro S ⟨T1,T2,q1,q2,e⟩;obtain⟨S1,S2,u1,u2⟩:=ih q2;exact⟨T1++S1,S2,⟨T1,S1,q1,u1,rfl⟩,by rw[e,u2,fU]⟩
 obtain⟨S1,S2,q1,e⟩:=this h1;subst e;exact⟨h.agree,h.le,h.gF,⟨S1,q1,(gX.1 h2).1,λi hi=>h3 i (jW _ hi)⟩,h.facts⟩
variable{F':List aK}
theorem St.sub(s:Sub F' F)(h:St B w0 kl F w):St B w0 kl F' w:=⟨h.agree,h.le,h.gF,h.own,λf hf=>h.facts f (s.mem f hf)⟩
theorem St.add(h:St B w0 kl F w)(hf:∀f∈F',f.p w):St B w0 kl (F'++F) w:=
 ⟨h.agree,h.le,h.gF,h.own,λf h1=>(dW.1 h1).elim (hf f) (h.facts f)⟩
variable{b:Nat}{o:dQ}
theorem St.get(h:St B w0 (pt b o::kl) F w):w.h.get b=some o/\b<w.h.next/\(w0.h.next<=b\/b∈B):=by
 obtain⟨S,⟨S1,S2,⟨e1,q1⟩,_,e⟩,h2,h3⟩:=h.own;have hb:b∈S:=by rw[e,e1];simp
 exact⟨q1,(h3 b hb).2.1,(h3 b hb).1⟩
theorem St.at_(s:ay (pt b o) kl kl')(h:St B w0 kl F w):At w.h b o:=⟨(h.gK s).get.2.1,(h.gK s).get.1⟩
noncomputable def Wd.new(w:Wd)(o:dQ):Wd:=⟨w.h.new o,w.z,λi hi=>JO (w.ni i hi)⟩
theorem St.new(h:St B w0 kl F w)(o:dQ):St B w0 (pt w.h.next o::kl) F (w.new o):=by
 have hg:∀i,i<w.h.next->(w.h.new o).get i=w.h.get i:=λi hi=>by rw[IH.iZ,if_neg vj]
 have hle:w.Le (w.new o):=⟨AU _,λ_ h=>h,λi hi=>hg i (w.ni i hi)⟩
 obtain⟨S,h1,h2,h3⟩:=h.own;refine⟨⟨Nat.le_succ_of_le h.agree.next,λi hi hb=>(hg i (lS hi h.agree.next)).trans (h.agree.get i hi hb),λa b=>h.agree.low a b⟩,h.le.trans hle,h.gF,
  ⟨[w.h.next]++S,⟨[w.h.next],S,⟨rfl,by show(w.h.new o).get _=_;rw[IH.iZ,if_pos rfl]⟩,fB.loc hle (λi hi=>hg i (h3 i hi).2.1) h1,rfl⟩,?_,?_⟩,λf hf=>f.mono hle (h.facts f hf)⟩
 ·refine wo.2 ⟨λhm=>?_,h2⟩;have:=(h3 _ hm).2.1;omega
 ·intro i hi;rcases dW.1 hi with hi|hi
  ·rw[bK.1 hi];exact⟨.inl h.agree.next,wh _,λhz=>absurd (w.ni _ hz) (Nat.lt_irrefl _)⟩
  ·exact⟨(h3 i hi).1,JO (h3 i hi).2.1,(h3 i hi).2.2⟩
variable{o':dQ}
theorem St.write(h:St B w0 (pt b o::kl) F w):St B w0 (pt b o'::kl) F ⟨w.h.set b o',w.z,λi hi=>w.ni i hi⟩:=by
 obtain⟨S,⟨S1,S2,⟨e1,q1⟩,q2,e⟩,h2,h3⟩:=h.own;subst e e1;have hb:=h3 b vm;have hn:b∉S2:=λhm=>(wo.1 h2).1 hm;have hg:∀i,i≠b->(w.h.set b o').get i=w.h.get i:=λi hi=>by rw[IH.mZ,if_neg hi]
 have hle:w.Le ⟨w.h.set b o',w.z,λi hi=>w.ni i hi⟩:=⟨bV _,λ_ h=>h,λi hi=>hg i (λe=>hb.2.2 (e▸hi))⟩
 refine⟨⟨h.agree.next,λi hi hB=>(hg i ?_).trans (h.agree.get i hi hB),λa c=>?_⟩,h.le.trans hle,h.gF,
  ⟨[b]++S2,⟨[b],S2,⟨rfl,by show(w.h.set b o').get b=_;rw[IH.mZ,if_pos rfl]⟩,fB.loc hle (λi hi=>hg i (λe=>hn (e▸hi))) q2,rfl⟩,h2,h3⟩,λf hf=>f.mono hle (h.facts f hf)⟩
 ·rcases hb.1 with q|q
  ·omega
  ·intro e;exact hB (e▸q)
 ·have hl:=h.agree.low a c;show(w.h.set b o').low=_;rw[IH.F6,hl];rcases hb.1 with q|q
  ·omega
  ·have:=c b q;omega
theorem St.move{h':IH}(h:St B w0 (pt b o::kl) F w)(m:zR w.h h' b o'):∃w':Wd,w'.h=h'/\St B w0 (pt w.h.next o'::kl) F w'/\w.Le w':=by
 obtain⟨S,⟨S1,S2,⟨e1,q1⟩,q2,e⟩,h2,h3⟩:=h.own;subst e e1;have hb:=h3 b vm;have hn:b∉S2:=λhm=>(wo.1 h2).1 hm;let w':Wd:=⟨h',w.z,λi hi=>by rw[m.next];exact JO (w.ni i hi)⟩
 have hle:w.Le w':=⟨by show _<=h'.next;rw[m.next];exact AU _,λ_ h=>h,λi hi=>m.get i (w.ni i hi) (λe=>hb.2.2 (e▸hi))⟩
 refine⟨w',rfl,⟨⟨by show _<=h'.next;rw[m.next];exact Nat.le_succ_of_le h.agree.next,λi hi hB=>(m.get i (lS hi h.agree.next) ?_).trans (h.agree.get i hi hB),λa c=>?_⟩,h.le.trans hle,h.gF,
  ⟨[w.h.next]++S2,⟨[w.h.next],S2,⟨rfl,m.at_.2⟩,fB.loc hle (λi hi=>m.get i (h3 i (by simp[hi])).2.1 (λe=>hn (e▸hi))) q2,rfl⟩,?_,?_⟩,λf hf=>f.mono hle (h.facts f hf)⟩,hle⟩
 ·rcases hb.1 with q|q
  ·omega
  ·intro e;exact hB (e▸q)
 ·have hl:=h.agree.low a c;rw[<- hl];refine m.low ?_;rw[hl];rcases hb.1 with q|q
  ·omega
  ·exact c b q
 ·refine wo.2 ⟨λhm=>?_,(wo.1 h2).2⟩;have:=(h3 _ (dA _ hm)).2.1;omega
 ·intro i hi;have hnx:w'.h.next=w.h.next+1:=m.next
  rcases dW.1 hi with hi|hi
  ·rw[bK.1 hi];exact⟨.inl h.agree.next,vj,λhz=>absurd (w.ni _ hz) (Nat.lt_irrefl _)⟩
  ·have:=h3 i (by simp[hi]);exact⟨this.1,vj,this.2.2⟩
variable{A':OA}
theorem St.zW(hA:∀w S,A.p w S->A'.p w S)(h:St B w0 (A::kl) F w):St B w0 (A'::kl) F w:=by
 obtain⟨S,⟨S1,S2,q1,q2,e⟩,h2,h3⟩:=h.own;exact⟨h.agree,h.le,h.gF,⟨S,⟨S1,S2,hA w S1 q1,q2,e⟩,h2,h3⟩,h.facts⟩
theorem St.BI(h:St B w0 (A::kl) F w)(hA:∀S,A.p w S->A'.p w S):St B w0 (A'::kl) F w:=by
 obtain⟨S,⟨S1,S2,q1,q2,e⟩,h2,h3⟩:=h.own;exact⟨h.agree,h.le,h.gF,⟨S,⟨S1,S2,hA S1 q1,q2,e⟩,h2,h3⟩,h.facts⟩
theorem St.tail(h:St B w0 (A::kl) F w):St B w0 kl F w:=by
 obtain⟨S,⟨S1,S2,q1,q2,e⟩,h2,h3⟩:=h.own;subst e;exact⟨h.agree,h.le,h.gF,⟨S2,q2,(gX.1 h2).2.1,λi hi=>h3 i (oF _ hi)⟩,h.facts⟩
def uz(A:OA)(fs:List aK):Prop:=∀(w w':Wd) S,A.p w S->w.Le w'->w'.h=w.h->(∀i∈S,w'.z i)->∀f∈fs,f.p w'
theorem St.freeze{fs:List aK}(hA:uz A fs)(h:St B w0 (A::kl) F w):∃w',w'.h=w.h/\St B w0 kl (fs++F) w':=by
 obtain⟨S,⟨S1,S2,q1,q2,e⟩,h2,h3⟩:=h.own;subst e;let w':Wd:=⟨w.h,λi=>w.z i\/i∈S1,λi hi=>hi.elim (w.ni i) λhi=>(h3 i (jW _ hi)).2.1⟩
 have hle:w.Le w':=⟨bV _,λi hi=>.inl hi,λ_ _=>rfl⟩
 have hnd:=gX.1 h2;refine⟨w',rfl,h.agree,h.le.trans hle,λi hi hz=>?_,⟨S2,fB.loc hle (λ_ _=>rfl) q2,hnd.2.1,λi hi=>?_⟩,λf hf=>?_⟩
 ·rcases hz with hz|hz
  ·exact h.gF i hi hz
  ·rcases(h3 i (jW _ hz)).1 with q|q
   ·omega
   ·exact .inr q
 ·exact oS
 ·rcases dW.1 hf with hf|hf
  ·exact hA w w' S1 q1 hle rfl (λi hi=>.inr hi) f hf
  ·exact f.mono hle (h.facts f hf)
theorem fQ{α:Type}{E:Enc α}{v:Value}{xs:List α}:uz (ap E v xs) [ai E v xs]:=by
 intro w w' S hp hle hh hz f hf;rw[bK.1 hf];rcases hp with⟨h1,h2,_⟩|⟨b,o,f,cells,h1,h2,h3,h4,h5,h6⟩
 ·exact .inl ⟨h1,none,0,h2,trivial⟩
 ·refine .inr ⟨b,o,f,_,cells,⟨h1,bV _,h2⟩,⟨hz b A6,.inl (by rw[hh];exact h4)⟩,λk x hk=>?_⟩;obtain⟨y,q1,q2⟩:=h6 k x hk;exact⟨y,q1,λf hf=>f.mono hle (q2 f hf)⟩
theorem dR{cs:List Value}:uz (pt b (.cells cs)) [fA b 0 cs]:=by
 intro w w' S ⟨h1,h2⟩ hle hh hz f hf;rw[bK.1 hf];exact⟨cs,⟨hz b zd,.inl (by rw[hh];exact h2)⟩,λj u hj=>by rw[fC];exact hj⟩
theorem D7{f c:Nat}{xs:List Int}(hc:xs.length<=c:=by first|exact bV _|omega)(hf:f=0\/f=1:=by first|exact .inl rfl|exact .inr rfl):uz (pt b (.cells (xs.map (.int .i64)))) [ai ae (.slice (some ⟨b,0,some f⟩) xs.length c) xs]:=by
 intro w w' S ⟨h1,h2⟩ hle hh hz g hg;rw[bK.1 hg];refine .inr ⟨b,0,f,c,_,⟨rfl,hc,hf⟩,⟨hz b zd,.inl (by rw[hh];exact h2)⟩,λk x hk=>⟨(),λj u hj=>?_,λf hf=>by cases hf⟩⟩;match j,hj with
 |0,hj=>
  cases hj;simp[ae,hk]
end
end Go.Ideal
namespace Go.Ideal
variable {P:Program}
def R(Q:IH->Prop)(B:List Nat)(w0:Wd)(kl:List OA)(F:List aK):Prop:=∀w,St B w0 kl F w->Q w.h
structure dN(G G':Prop):Prop where
 h:G'->G
theorem dN.refl(G:Prop):dN G G:=⟨id⟩
variable{A B:Prop}
theorem dN.trans{C:Prop}(a:dN A B)(b:dN B C):dN A C:=⟨λc=>a.h (b.h c)⟩
theorem dN.all{X:Type}{A B:X->Prop}(h:∀x,dN (A x) (B x)):dN (∀x,A x) (∀x,B x):=⟨λb x=>(h x).h (b x)⟩
theorem dN.imp{p:Prop}(h:dN A B):dN (p->A) (p->B):=⟨λb x=>h.h (b x)⟩
def Pu(P:Program)(ρ:Operand->Value)(op:aB)(v:Value):Prop:=∀h,op.run P ρ h=some (v,h)
inductive EvL(ρ:Operand->Value):List Operand->List Value->Prop
 |nil:EvL ρ [] []
 |cons {x:Operand} {v:Value} {xs:List Operand} {vs:List Value} (h:ρ x=v) (t:EvL ρ xs vs):EvL ρ (x::xs) (v::vs)
theorem EvL.map{ρ:Operand->Value}:∀{xs:List Operand} {vs:List Value},EvL ρ xs vs->xs.map ρ=vs
 |_,_,.nil=>rfl
 |_,_,.cons h t=>by rw[ic,h,t.map]
section
variable {ρ:Operand->Value}
variable{x:Operand}{v:Value}
theorem Gz(hx:ρ x=v):Pu P ρ (.mv x) v:=λh=>by simp only[aB.run,hx]
theorem GA(hx:ρ x=v):Pu P ρ (.mW x) v:=λh=>by simp only[aB.run,hx]
variable{y:Operand}
theorem GD{c:Operand}(hc:ρ c=.bool true)(hx:ρ x=v):Pu P ρ (.pick c x y) v:=λh=>by simp only[aB.run,hc,hx,cond]
theorem GG{c:Operand}(hc:ρ c=.bool false)(hx:ρ y=v):Pu P ρ (.pick c x y) v:=λh=>by simp only[aB.run,hc,hx,cond]
theorem GH{b:Bool}(hx:ρ x=.bool b):Pu P ρ (.un .not x) (.bool !b):=λh=>by simp only[aB.run,hx];rfl
variable{m c:Nat}
theorem GI{a:Option Addr}(hx:ρ x=.slice a m c):Pu P ρ (.wD x) (.int .i64 (m:Int)):=λh=>by simp only[aB.run,hx,QR]
variable{n:Nat}
theorem GJ:Pu P ρ (.FV n) (.int .i64 (n:Int)):=λh=>rfl
variable{t:TypeId}{a b:Int}
theorem GK(hx:ρ x=.int .i64 a)(hy:ρ y=.int .i64 b):Pu P ρ (.bin .lss t x y) (.bool (decide (a<b))):=λh=>by
 simp only[aB.run,hx,hy];rw[yz (v:=.bool (decide (a<b)))];simp[pg,af2,<- Int.not_le]
theorem GL(hx:ρ x=.int .i64 a)(hy:ρ y=.int .i64 b):Pu P ρ (.bin .leq t x y) (.bool (decide (a<=b))):=λh=>by
 simp only[aB.run,hx,hy];rw[yz (v:=.bool (decide (a<=b)))];simp[pg,af2]
theorem GM(hx:ρ x=.int .i64 a)(hy:ρ y=.int .i64 b):Pu P ρ (.bin .gtr t x y) (.bool (decide (b<a))):=λh=>by
 simp only[aB.run,hx,hy];rw[yz (v:=.bool (decide (b<a)))];simp[pg,af2,<- Int.not_le]
theorem GN(hx:ρ x=.int .i64 a)(hy:ρ y=.int .i64 b):Pu P ρ (.bin .geq t x y) (.bool (decide (b<=a))):=λh=>by
 simp only[aB.run,hx,hy];rw[yz (v:=.bool (decide (b<=a)))];simp[pg,af2]
theorem GQ(hx:ρ x=.int .i64 a)(hy:ρ y=.int .i64 b):Pu P ρ (.bin .eql t x y) (.bool (decide (a=b))):=λh=>by
 simp only[aB.run,hx,hy];rw[yz (v:=.bool (decide (a=b)))];simp[pg,Dp];rfl
theorem GR(hx:ρ x=.int .i64 a)(hy:ρ y=.int .i64 b):Pu P ρ (.bin .neq t x y) (.bool (decide (a≠b))):=λh=>by
 simp only[aB.run,hx,hy];rw[yz (v:=.bool (decide (a≠b)))];simp[pg,Dp];rfl
theorem BJ(hx:ρ x=.int .i64 a)(hy:ρ y=.int .i64 b)(h1: -9223372036854775808<=a+b)(h2:a+b<9223372036854775808):Pu P ρ (.bin .add t x y) (.int .i64 (a+b)):=λh=>by
 simp only[aB.run,hx,hy];rw[yz (v:=.int .i64 (a+b))];simp only[pg,PD,QT h1 h2]
theorem GU(hx:ρ x=.int .i64 a)(hy:ρ y=.int .i64 b)(h1: -9223372036854775808<=a - b)(h2:a - b<9223372036854775808):Pu P ρ (.bin .sub t x y) (.int .i64 (a - b)):=λh=>by
 simp only[aB.run,hx,hy];rw[yz (v:=.int .i64 (a - b))];simp only[pg,PE,QT h1 h2]
theorem GV{i:Nat}{vs:List Value}(hx:ρ x=.tuple ⟨vs⟩)(hv:jD vs i=some v):Pu P ρ (.extract x i) v:=λh=>by simp only[aB.run,hx,hv]
variable{o off:Nat}
theorem GX{b:Nat}(hx:ρ x=.pointer (some ⟨b,o,none⟩)):Pu P ρ (.fI off x) (.pointer (some ⟨b,o+off,none⟩)):=λh=>by simp only[aB.run,hx];rfl
variable{cs:List Value}
theorem GY(hx:ρ x=.agg ⟨cs⟩)(hv:jD cs off=some v):Pu P ρ (.field t off n false x) v:=λh=>by simp only[aB.run,hx,hv]
theorem GZ{r:List Value}(hx:ρ x=.agg ⟨cs⟩)(hv:jd (jE cs off) n=some r):Pu P ρ (.field t off n true x) (.agg ⟨r⟩):=λh=>by simp only[aB.run,hx,hv]
theorem G5(hx:ρ x=v):Pu P ρ (.iface t x) (.iface t v):=λh=>by simp only[aB.run,hx]
theorem G6{zero:Value}(hx:ρ x=.iface t v):Pu P ρ (.FT t zero false x) v:=λh=>by
 simp only[aB.run,hx];show cond (Nat.beq t t) _ _=_;rw[ahD];rfl
theorem aaN{zero:List Value}{parts:List (Nat×Nat×Operand)}(hx:qP ρ zero parts=some cs):Pu P ρ (.build zero parts) (.agg ⟨cs⟩):=λh=>by simp only[aB.run,hx]
theorem G7{a:Addr}(hx:ρ x=.pointer (some a)):Pu P ρ (.kT x) (.pointer (some a)):=λh=>by simp only[aB.run,hx]
theorem G8{f:FuncId}{a b:Array Value}(hx:ρ x=.func (.func f) a b):Pu P ρ (.kT x) (.func (.func f) a b):=λh=>by simp only[aB.run,hx]
theorem aaO{fn:Fn}{first captured:List Operand}{a b:List Value}(h1:EvL ρ first a)(h2:EvL ρ captured b):Pu P ρ (.Ba fn first captured) (.func fn ⟨a⟩ ⟨b⟩):=λh=>by
 simp only[aB.run,wI,h1.map,h2.map]
variable{i:Operand}{k:Int}{size:Nat}{kk:IntKind}{f:Option Nat}
theorem D8{b:Nat}(hx:ρ x=.slice (some ⟨b,o,f⟩) m c)(hi:ρ i=.int kk k)(h0:0<=k)(h1:k<m):
 Pu P ρ (.nG size x i) (.pointer (some ⟨b,o+k.toNat*size,none⟩)):=λh=>by
 obtain⟨j,rfl⟩:=iO h0;simp only[aB.run,hx,hi];show cond (Nat.blt j m) _ _=_;rw[LF vj];rfl
theorem G9{b k:Nat}(hx:ρ x=.slice (some ⟨b,o,f⟩) m c)(hi:ρ i=.int kk (.ofNat k))(h1:Nat.blt k m=true):
 Pu P ρ (.nG size x i) (.pointer (some ⟨b,o+k*size,none⟩)):=λh=>by
 simp only[aB.run,hx,hi,h1];rfl
theorem He{b:Nat}(hx:ρ x=.pointer (some ⟨b,o,none⟩))(hi:ρ i=.int kk k)(h0:0<=k)(h1:k<m):
 Pu P ρ (.J3 m size x i) (.pointer (some ⟨b,o+k.toNat*size,none⟩)):=λh=>by
 obtain⟨j,rfl⟩:=iO h0;simp only[aB.run,hx,hi];show cond (Nat.blt j m) _ _=_;rw[LF vj];rfl
end
section
variable {B:List Nat} {w0:Wd} {kl kl':List OA} {F:List aK} {a:aV} {K:KO}
theorem aaP{x y:dB}:dN (R (λh=>EV P (.seq x y) a h K) B w0 kl F) (R (λh=>EV P x a h (yx P y K)) B w0 kl F):=⟨λr w s=>aag (r w s)⟩
variable{id:Nat}{c:dB}
theorem aaQ:dN (R (λh=>EV P (.block id c) a h K) B w0 kl F) (R (λh=>EV P c a h (wT id K)) B w0 kl F):=⟨λr w s=>aah (r w s)⟩
variable{ds:List Tmp}
theorem aaR{l:List bT}:dN (R (λh=>EV P (.ops ds l) a h K) B w0 kl F) (R (λh=>aG P ds l a h K) B w0 kl F):=⟨λr w s=>.ops (r w s)⟩
theorem aaS:dN (R (λh=>EV P (.scope c) a h K) B w0 kl F) (R (λh=>EV P c a h K) B w0 kl F):=⟨λr w s=>.scope (r w s)⟩
theorem aaT:dN (R (λh=>EV P .skip a h K) B w0 kl F) (R (λh=>K .normal a h) B w0 kl F):=⟨λr w s=>.skip (r w s)⟩
theorem aaU:dN (R (λh=>EV P (.exit id) a h K) B w0 kl F) (R (λh=>K (.exit id) a h) B w0 kl F):=⟨λr w s=>.exit (r w s)⟩
theorem aaV:dN (R (λh=>EV P .ret a h K) B w0 kl F) (R (λh=>K .ret a h) B w0 kl F):=⟨λr w s=>.ret (r w s)⟩
theorem aaW:dN (R (λh=>aG P ds [] a h K) B w0 kl F) (R (λh=>K .normal a h) B w0 kl F):=⟨λr w s=>.nil (r w s)⟩
variable {y:dB} {i j m0:Nat} {I:Nat->aV->IH->Prop} {ch:List PanicEntry}
theorem aaX:dN (R (λh=>yx P y K .normal a h) B w0 kl F) (R (λh=>EV P y a h K) B w0 kl F):=⟨λr w s=>r w s⟩
theorem aaY:dN (R (λh=>yx P y K .ret a h) B w0 kl F) (R (λh=>K .ret a h) B w0 kl F):=⟨λr w s=>r w s⟩
theorem aaZ:dN (R (λh=>yx P y K (.exit j) a h) B w0 kl F) (R (λh=>K (.exit j) a h) B w0 kl F):=⟨λr w s=>r w s⟩
theorem aa0:dN (R (λh=>yx P y K (.panic ch) a h) B w0 kl F) (R (λh=>K (.panic ch) a h) B w0 kl F):=⟨λr w s=>r w s⟩
theorem aa1:dN (R (λh=>wT i K .normal a h) B w0 kl F) (R (λh=>K .normal a h) B w0 kl F):=⟨λr w s=>r w s⟩
theorem aa2:dN (R (λh=>wT i K .ret a h) B w0 kl F) (R (λh=>K .ret a h) B w0 kl F):=⟨λr w s=>r w s⟩
theorem aa3:dN (R (λh=>wT i K (.panic ch) a h) B w0 kl F) (R (λh=>K (.panic ch) a h) B w0 kl F):=⟨λr w s=>r w s⟩
theorem aa4(e:Nat.beq j i=true):dN (R (λh=>wT i K (.exit j) a h) B w0 kl F) (R (λh=>K .normal a h) B w0 kl F):=⟨λr w s=>aar e (r w s)⟩
theorem aa5(e:Nat.beq j i=false):dN (R (λh=>wT i K (.exit j) a h) B w0 kl F) (R (λh=>K (.exit j) a h) B w0 kl F):=⟨λr w s=>aas e (r w s)⟩
theorem aa6:dN (R (λh=>wU I m0 K .ret a h) B w0 kl F) (R (λh=>K .ret a h) B w0 kl F):=⟨λr w s=>r w s⟩
theorem aa7:dN (R (λh=>wU I m0 K (.exit j) a h) B w0 kl F) (R (λh=>K (.exit j) a h) B w0 kl F):=⟨λr w s=>r w s⟩
theorem aa8:dN (R (λh=>wU I m0 K (.panic ch) a h) B w0 kl F) (R (λh=>K (.panic ch) a h) B w0 kl F):=⟨λr w s=>r w s⟩
end
section
variable {B:List Nat} {w0:Wd} {kl kl':List OA} {F:List aK} {K:KO} {ds:List Tmp} {rest:List bT} {n:Nat} {l:List (Nat×Value)} {D:List Deferred} {pm:Option FrameMode} {ro:Option Nat} {d:Nat} {g:Option (Tmp×Bool)}
variable{c:Operand}{y:dB}
theorem aa9{x:dB}(hc:ev l c=.bool true):dN (R (λh=>EV P (.cond c x y) (act n l D pm ro) h K) B w0 kl F) (R (λh=>EV P x (act n l D pm ro) h K) B w0 kl F):=
 ⟨λr w s=>DX true hc (λ_=>r w s) (λe=>by cases e)⟩
theorem aba{x:dB}(hc:ev l c=.bool false):dN (R (λh=>EV P (.cond c x y) (act n l D pm ro) h K) B w0 kl F) (R (λh=>EV P y (act n l D pm ro) h K) B w0 kl F):=
 ⟨λr w s=>DX false hc (λe=>by cases e) (λ_=>r w s)⟩
variable{p:Prop}
theorem az{x:dB}[Decidable p](hc:ev l c=.bool (decide p))(h1:p->R (λh=>EV P x (act n l D pm ro) h K) B w0 kl F)(h2:¬p->R (λh=>EV P y (act n l D pm ro) h K) B w0 kl F):
 R (λh=>EV P (.cond c x y) (act n l D pm ro) h K) B w0 kl F:=
 λw s=>DX _ hc (λe=>h1 (gQ e) w s) (λe=>h2 (mV e) w s)
theorem eO{x:dB}[Decidable p](hc:ev l c=.bool (!decide p))(h1:¬p->R (λh=>EV P x (act n l D pm ro) h K) B w0 kl F)(h2:p->R (λh=>EV P y (act n l D pm ro) h K) B w0 kl F):
 R (λh=>EV P (.cond c x y) (act n l D pm ro) h K) B w0 kl F:=
 λw s=>DX _ hc (λe=>h1 xF w s) (λe=>h2 xF w s)
theorem jh{x:dB}{b:Bool}(hc:ev l c=.bool b)(h1:b=true->R (λh=>EV P x (act n l D pm ro) h K) B w0 kl F)(h2:b=false->R (λh=>EV P y (act n l D pm ro) h K) B w0 kl F):
 R (λh=>EV P (.cond c x y) (act n l D pm ro) h K) B w0 kl F:=
 λw s=>DX _ hc (λe=>h1 e w s) (λe=>h2 e w s)
variable{op:aB}
theorem abb{re:List ik}(hn:Nat.blt d n=true)(hg:LC l g=true):dN (R (λh=>aG P ds (⟨⟨some d,g,op⟩,re⟩::rest) (act n l D pm ro) h K) B w0 kl F) (R (λh=>aG P ds rest (act n ((d,si)::l) D pm ro) h K) B w0 kl F):=
 ⟨λr w s=>aap hn hg (r w s)⟩
variable{v:Value}
theorem fq(hn:Nat.blt d n=true)(hg:bZ l g=true)(hp:Pu P (ev l) op v):dN (R (λh=>aG P ds (⟨⟨some d,g,op⟩,[]⟩::rest) (act n l D pm ro) h K) B w0 kl F) (R (λh=>aG P ds rest (act n ((d,v)::l) D pm ro) h K) B w0 kl F):=
 ⟨λr w s=>lW hn hg (hp w.h) (r w s)⟩
abbrev ptr'(b:Nat):Value:=.pointer (some ⟨b,0,none⟩)
variable{cs:List Value}{t:TypeId}
theorem abd(hn:Nat.blt d n=true)(hg:bZ l g=true):dN (R (λh=>aG P ds (⟨⟨some d,g,.new cs t⟩,[]⟩::rest) (act n l D pm ro) h K) B w0 kl F)
 (∀b,R (λh=>aG P ds rest (act n ((d,.pointer (some ⟨b,0,none⟩))::l) D pm ro) h K) B w0 (pt b (.cells cs)::kl) F):=
 ⟨λr w s=>lW hn hg (h':=w.h.new (.cells cs)) (by simp only[aB.run,aB.alloc,qQ]) (r w.h.next (w.new _) (s.new _))⟩
variable{x:Operand}
theorem abe(hn:Nat.blt d n=true)(hg:bZ l g=true)(hx:cellsOf (ev l x)=some cs):dN (R (λh=>aG P ds (⟨⟨some d,g,.box x t⟩,[]⟩::rest) (act n l D pm ro) h K) B w0 kl F)
 (∀b,R (λh=>aG P ds rest (act n ((d,.pointer (some ⟨b,0,none⟩))::l) D pm ro) h K) B w0 (pt b (.cells cs)::kl) F):=
 ⟨λr w s=>lW hn hg (h':=w.h.new (.cells cs)) (by simp only[aB.run,aB.alloc,qQ,hx]) (r w.h.next (w.new _) (s.new _))⟩
variable{zero:List Value}
theorem abf{len:Nat}{parts:List (Nat×Nat×Operand)}(hn:Nat.blt d n=true)(hg:bZ l g=true)(hx:qP (ev l) zero parts=some cs):
 dN (R (λh=>aG P ds (⟨⟨some d,g,.wB t len zero parts⟩,[]⟩::rest) (act n l D pm ro) h K) B w0 kl F)
 (∀b,R (λh=>aG P ds rest (act n ((d,.slice (some ⟨b,0,some 0⟩) len len)::l) D pm ro) h K) B w0 (pt b (.cells cs)::kl) F):=
 ⟨λr w s=>lW hn hg (h':=w.h.new (.cells cs)) (by simp only[aB.run,aB.alloc,qQ,hx,zq]) (r w.h.next (w.new _) (s.new _))⟩
variable{m size bytes:Nat}{e:TypeId}
theorem abg{y:Operand}(hn:Nat.blt d n=true)(hg:bZ l g=true)(hx:ev l x=.int .i64 (m:Int))(hy:ev l y=.int .i64 (m:Int))
 (hm:m*bytes<=1073741824/\m*size<=1073741824/\m<=1073741824):dN (R (λh=>aG P ds (⟨⟨some d,g,.zn e size bytes zero x y⟩,[]⟩::rest) (act n l D pm ro) h K) B w0 kl F)
 (∀b,R (λh=>aG P ds rest (act n ((d,.slice (some ⟨b,0,some 0⟩) m m)::l) D pm ro) h K) B w0 (pt b (.cells (zeros zero m))::kl) F):=by
 refine⟨λr w s=>?_⟩;have hle:∀{a b:Nat},a<=b->Nat.ble a b=true:=λh=>by rw[uR];exact h
 refine lW hn hg (h':=w.h.new (.cells (zeros zero m))) ?_ (r w.h.next (w.new _) (s.new _));simp only[aB.run,aB.alloc,hx,hy];show qQ (cond (Nat.ble m m&&Nat.ble (m*bytes) small&&Nat.ble (m*size) small&&Nat.ble m small) _ _) w.h=_;rw[hle (bV m),hle (show m*bytes<=small from hm.1),hle (show m*size<=small from hm.2.1),hle (show m<=small from hm.2.2)];rfl
variable{b o:Nat}
theorem abh(hn:Nat.blt d n=true)(hg:bZ l g=true)(hx:ev l x=.pointer (some ⟨b,o,none⟩))(hk:ay (pt b (.cells cs)) kl kl')(hv:jD cs o=some v):
 dN (R (λh=>aG P ds (⟨⟨some d,g,.gB x⟩,[]⟩::rest) (act n l D pm ro) h K) B w0 kl F) (R (λh=>aG P ds rest (act n ((d,v)::l) D pm ro) h K) B w0 kl F):=
 ⟨λr w s=>Gv hn hg hx (s.at_ hk) (by rw[<- ql];exact hv) (r w s)⟩
theorem abj{c:List Value}(hn:Nat.blt d n=true)(hg:bZ l g=true)(hx:ev l x=.pointer (some ⟨b,o,none⟩))(hk:ay (pt b (.cells cs)) kl kl')(hv:jd (jE cs o) m=some c):
 dN (R (λh=>aG P ds (⟨⟨some d,g,.qc m x⟩,[]⟩::rest) (act n l D pm ro) h K) B w0 kl F) (R (λh=>aG P ds rest (act n ((d,.agg ⟨c⟩)::l) D pm ro) h K) B w0 kl F):=
 ⟨λr w s=>aaq hn hg hx (s.at_ hk) hv (r w s)⟩
variable{j:Nat}{w:Wd}
theorem Hf(h:(fA b o cs).p w)(hv:jD cs j=some v):w.h.nU b (o+j)=some v:=by
 obtain⟨cells,h1,h2⟩:=h;rw[h1.cells.nU];exact h2 j v (by rw[<- ql];exact hv)
theorem Hg{c:List Value}(h:(fA b o cs).p w)(hv:jd (jE cs j) m=some c):w.h.iW b (o+j) m=some c:=by
 obtain⟨cells,h1,h2⟩:=h;rw[h1.cells.iW];rw[sD,qV]at hv⊢;split at hv
 ·rename_i hm;cases hv;rw[wm]at hm;have key:∀i,i<m->cells[o+j+i]? =cs[j+i]?:=λi hi=>by
   have hlt:j+i<cs.length:=vj
   rw[qb,bW hlt];exact h2 (j+i) _ (bW hlt)
  have hlen:m=0\/o+j+m<=cells.length:=by
   rcases JL m with e|e
   ·exact .inl e
   ·right;have:=key (m - 1) vj;rw[bW (show j+(m - 1)<cs.length by omega)]at this;have:=(bC.1 this).1;omega
  rw[if_pos xp];congr 1;apply jv;intro i;rw[tO,tO];by_cases hi:i<m
  ·rw[if_pos hi,if_pos hi,qK,qK];exact key i hi
  ·rw[if_neg hi,if_neg hi]
 ·cases hv
theorem abk(hn:Nat.blt d n=true)(hg:bZ l g=true)(hx:ev l x=.pointer (some ⟨b,o,none⟩))(hk:fA b o cs∈F)(hv:jD cs 0=some v):
 dN (R (λh=>aG P ds (⟨⟨some d,g,.gB x⟩,[]⟩::rest) (act n l D pm ro) h K) B w0 kl F) (R (λh=>aG P ds rest (act n ((d,v)::l) D pm ro) h K) B w0 kl F):=
 ⟨λr w s=>lW hn hg (by simp only[aB.run,hx,show w.h.nU b o=some v from Hf (j:=0) (s.facts _ hk) hv]) (r w s)⟩
theorem Hl(hn:Nat.blt d n=true)(hg:bZ l g=true)(hx:ev l x=.pointer (some ⟨b,o+j,none⟩))(hk:fA b o cs∈F)(hv:jD cs j=some v):
 dN (R (λh=>aG P ds (⟨⟨some d,g,.gB x⟩,[]⟩::rest) (act n l D pm ro) h K) B w0 kl F) (R (λh=>aG P ds rest (act n ((d,v)::l) D pm ro) h K) B w0 kl F):=
 ⟨λr w s=>lW hn hg (by simp only[aB.run,hx,Hf (s.facts _ hk) hv]) (r w s)⟩
theorem abl{c:List Value}(hn:Nat.blt d n=true)(hg:bZ l g=true)(hx:ev l x=.pointer (some ⟨b,o,none⟩))(hk:fA b o cs∈F)(hv:jd cs m=some c):
 dN (R (λh=>aG P ds (⟨⟨some d,g,.qc m x⟩,[]⟩::rest) (act n l D pm ro) h K) B w0 kl F) (R (λh=>aG P ds rest (act n ((d,.agg ⟨c⟩)::l) D pm ro) h K) B w0 kl F):=
 ⟨λr w s=>lW hn hg (by simp only[aB.run,hx,show w.h.iW b o m=some c from Hg (j:=0) (s.facts _ hk) (by rw[qV];exact hv)]) (r w s)⟩
theorem Re{c:List Value}(hn:Nat.blt d n=true)(hg:bZ l g=true)(hx:ev l x=.pointer (some ⟨b,o+j,none⟩))(hk:fA b o cs∈F)(hv:jd (jE cs j) m=some c):
 dN (R (λh=>aG P ds (⟨⟨some d,g,.qc m x⟩,[]⟩::rest) (act n l D pm ro) h K) B w0 kl F) (R (λh=>aG P ds rest (act n ((d,.agg ⟨c⟩)::l) D pm ro) h K) B w0 kl F):=
 ⟨λr w s=>lW hn hg (by simp only[aB.run,hx,Hg (s.facts _ hk) hv]) (r w s)⟩
theorem abm{y:Operand}{vs c:List Value}(hg:bZ l g=true)(hx:ev l x=.pointer (some ⟨b,o,none⟩))(hy:cellsOf (ev l y)=some vs)(hm:Nat.beq (iF vs) m=true)
 (hk:ay (pt b (.cells cs)) kl kl') (hv:jK cs o vs=some c):
 dN (R (λh=>aG P ds (⟨⟨none,g,.store m x y⟩,[]⟩::rest) (act n l D pm ro) h K) B w0 kl F) (R (λh=>aG P ds rest (act n l D pm ro) h K) B w0 (pt b (.cells c)::kl') F):=
 ⟨λr w s=>LD hg (v:=dO) (h':=w.h.set b (.cells c)) (by simp only[aB.run,hx,hy,hm];simp only[IH.storeAt,(s.at_ hk).2,hv];rfl) (r _ ((s.gK hk).write))⟩
theorem abn{y:Operand}(hg:bZ l g=true)(hx:ev l x=.pointer (some ⟨b,o,none⟩))(hy:ev l y=v)(hv:cellsOf v=some [v])
 (hk:ay (pt b (.cells cs)) kl kl') (ho:o<cs.length):
 dN (R (λh=>aG P ds (⟨⟨none,g,.store 1 x y⟩,[]⟩::rest) (act n l D pm ro) h K) B w0 kl F) (R (λh=>aG P ds rest (act n l D pm ro) h K) B w0 (pt b (.cells (cs.set o v))::kl') F):=
 ⟨λr w s=>LD hg (v:=dO) (h':=w.h.set b (.cells (cs.set o v))) (by
  simp only[aB.run,hx,hy,hv];show cond (Nat.beq 1 1) _ _=_;simp only[IH.storeAt,(s.at_ hk).2,QU cs o v ho];rfl) (r _ ((s.gK hk).write))⟩
theorem abo(hn:Nat.blt d n=true)(hg:bZ l g=true)(hx:ev l x=.pointer (some ⟨b,o,none⟩))(hk:ay (pt b (.cells cs)) kl kl')(hv:cs[o]? =some v):
 dN (R (λh=>aG P ds (⟨⟨some d,g,.gB x⟩,[]⟩::rest) (act n l D pm ro) h K) B w0 kl F) (R (λh=>aG P ds rest (act n ((d,v)::l) D pm ro) h K) B w0 kl F):=
 ⟨λr w s=>Gv hn hg hx (s.at_ hk) hv (r w s)⟩
variable{α:Type}
theorem Rf{E:Enc α}{xs:List α}(h:(ai E v xs).p w):∃a c,v=.slice a xs.length c:=by
 rcases h with⟨rfl,a,c,rfl,_⟩|⟨i,o,f,c,cs,⟨h1,_⟩,_⟩
 ·exact⟨a,c,rfl⟩
 ·exact⟨_,c,h1⟩
theorem abp{E:Enc α}{xs:List α}(h:(ai E v xs).p w){k:Nat}(hk:k<xs.length):
 ∃i o f c x y,v=.slice (some ⟨i,o,f⟩) xs.length c/\xs[k]? =some x/\(fA i (o+k*E.n) (E.pat x y)).p w/\∀f∈E.fs x y,f.p w:=by
 rcases h with⟨rfl,a,c,rfl,_⟩|⟨i,o,f,c,cs,⟨h1,_⟩,h2,h3⟩
 ·simp at hk
 ·obtain⟨y,q1,q2⟩:=h3 k xs[k] (bW hk);exact⟨i,o,some f,c,xs[k],y,h1,bW hk,⟨cs,h2,q1⟩,q2⟩
theorem abq{E:Enc α}{xs:List α}(hn:Nat.blt d n=true)(hg:bZ l g=true)(hx:ev l x=v)(hf:ai E v xs∈F):
 dN (R (λh=>aG P ds (⟨⟨some d,g,.wD x⟩,[]⟩::rest) (act n l D pm ro) h K) B w0 kl F) (R (λh=>aG P ds rest (act n ((d,.int .i64 (xs.length:Int))::l) D pm ro) h K) B w0 kl F):=
 ⟨λr w s=>by
  obtain⟨a,c,e⟩:=Rf (s.facts _ hf);exact QS hn hg (hx.trans e) (r w s)⟩
theorem LX{E:Enc α}{xs:List α}{S:List Nat}(h:(ap E v xs).p w S):∃a,v=.slice a xs.length xs.length:=by
 rcases h with⟨rfl,rfl,_⟩|⟨b,o,f,cells,h1,_⟩
 ·exact⟨none,rfl⟩
 ·exact⟨_,h1⟩
theorem abr{E:Enc α}{xs:List α}(hn:Nat.blt d n=true)(hg:bZ l g=true)(hx:ev l x=v)(hk:ay (ap E v xs) kl kl'):
 dN (R (λh=>aG P ds (⟨⟨some d,g,.wD x⟩,[]⟩::rest) (act n l D pm ro) h K) B w0 kl F) (R (λh=>aG P ds rest (act n ((d,.int .i64 (xs.length:Int))::l) D pm ro) h K) B w0 kl F):=
 ⟨λr w s=>by
  obtain⟨S,⟨S1,S2,q,_⟩,_⟩:=(s.gK hk).own;obtain⟨a,e⟩:=LX q;exact QS hn hg (hx.trans e) (r w s)⟩
variable{i:Operand}{kk:IntKind}{k:Int}
theorem LY{E:Enc α}{xs:List α}(hn:Nat.blt d n=true)(hg:bZ l g=true)(hx:ev l x=v)(hi:ev l i=.int kk k)(hf:ai E v xs∈F)
 (hs:E.n=size) (h0:0<=k) (h1:k<xs.length):
 dN (R (λh=>aG P ds (⟨⟨some d,g,.nG size x i⟩,[]⟩::rest) (act n l D pm ro) h K) B w0 kl F)
  (∀b o z y,xs[k.toNat]? =some z->R (λh=>aG P ds rest (act n ((d,.pointer (some ⟨b,o,none⟩))::l) D pm ro) h K) B w0 kl (fA b o (E.pat z y)::(E.fs z y++F))):=by
 refine⟨λr w s=>?_⟩;obtain⟨b,o,f,c,z,y,rfl,h2,h3,h4⟩:=abp (s.facts _ hf) (k:=k.toNat) vj;refine LG hn hg hx hi h0 h1 (r b _ z y h2 w ?_);rw[<- hs];exact(s.add (F':=fA b (o+k.toNat*E.n) (E.pat z y)::E.fs z y) (λf hf=>by
  rcases dH.1 hf with rfl|hf
  ·exact h3
  ·exact h4 f hf))
variable{xs:List Int}
theorem Rh(hn:Nat.blt d n=true)(hg:bZ l g=true)(hx:ev l x=v)(hi:ev l i=.int kk k)(hf:ai ae v xs∈F)(h0:0<=k)(h1:k<xs.length):
 dN (R (λh=>aG P ds (⟨⟨some d,g,.nG 1 x i⟩,[]⟩::rest) (act n l D pm ro) h K) B w0 kl F)
  (∀b o z,xs[k.toNat]? =some z->R (λh=>aG P ds rest (act n ((d,.pointer (some ⟨b,o,none⟩))::l) D pm ro) h K) B w0 kl (fA b o [.int .i64 z]::F)):=
 ⟨λr=>(LY hn hg hx hi hf rfl h0 h1).h λb o z y hz=>r b o z hz⟩
theorem Ri{xs:List Bool}(hn:Nat.blt d n=true)(hg:bZ l g=true)(hx:ev l x=v)(hi:ev l i=.int kk k)(hf:ai Rc v xs∈F)(h0:0<=k)(h1:k<xs.length):
 dN (R (λh=>aG P ds (⟨⟨some d,g,.nG 1 x i⟩,[]⟩::rest) (act n l D pm ro) h K) B w0 kl F)
  (∀b o z,xs[k.toNat]? =some z->R (λh=>aG P ds rest (act n ((d,.pointer (some ⟨b,o,none⟩))::l) D pm ro) h K) B w0 kl (fA b o [.bool z]::F)):=
 ⟨λr=>(LY hn hg hx hi hf rfl h0 h1).h λb o z y hz=>r b o z hz⟩
theorem gH(E:Enc α){Q:IH->Prop}(h:R Q B w0 (ap E (.slice none 0 0) []::kl) F):R Q B w0 kl F:=λw s=>by
 obtain⟨S,h1,h2,h3⟩:=s.own;exact h w ⟨s.agree,s.le,s.gF,⟨S,⟨[],S,.inl ⟨rfl,rfl,rfl⟩,h1,rfl⟩,h2,h3⟩,s.facts⟩
theorem LZ(E:Enc α){b:Nat}{Q:IH->Prop}(hk:ay (pt b (.cells [])) kl kl')(h:R Q B w0 (ap E (.slice (some ⟨b,0,some 0⟩) 0 0) []::kl') F):R Q B w0 kl F:=λw s=>
 h w ((s.gK hk).zW (A:=pt b (.cells [])) (A':=ap E (.slice (some ⟨b,0,some 0⟩) 0 0) []) λw S hp=>.inr ⟨b,0,0,[],rfl,.inl rfl,hp.1,hp.2,vm,λk x hk=>by cases hk⟩)
theorem abt{A:OA}{fs:List aK}{Q:IH->Prop}(hA:uz A fs)(hk:ay A kl kl')(h:R Q B w0 kl' (fs++F)):R Q B w0 kl F:=λw s=>by
 obtain⟨w',e,s'⟩:=(s.gK hk).freeze hA;rw[<- e];exact h w' s'
theorem _root_.Go.Ideal.St.fresh{o:dQ}{h':IH}(s:St B w0 kl F w)(ag:Agree w.h h')(at_:At h' w.h.next o)(hn:h'.next=w.h.next+1):∃w':Wd,w'.h=h'/\St B w0 (pt w.h.next o::kl) F w':=by
 have hg:∀i,i<w.h.next->h'.get i=w.h.get i:=ag.get
 let w':Wd:=⟨h',w.z,λi hi=>by rw[hn];exact JO (w.ni i hi)⟩
 have hle:w.Le w':=⟨by show _<=h'.next;omega,λ_ h=>h,λi hi=>hg i (w.ni i hi)⟩
 obtain⟨S,h1,h2,h3⟩:=s.own;have hnx:w'.h.next=w.h.next+1:=hn
 refine⟨w',rfl,⟨by have:=s.agree.next;omega,λi hi hb=>(hg i (lS hi s.agree.next)).trans (s.agree.get i hi hb),λa b=>?_⟩,s.le.trans hle,s.gF,
  ⟨[w.h.next]++S,⟨[w.h.next],S,⟨rfl,at_.2⟩,fB.loc hle (λi hi=>hg i (h3 i hi).2.1) h1,rfl⟩,?_,?_⟩,λf hf=>f.mono hle (s.facts f hf)⟩
 ·have hl:=s.agree.low a b;have:=s.agree.next
  show h'.low=_;rw[ag.low vj,hl]
 ·refine wo.2 ⟨λhm=>?_,h2⟩;have:=(h3 _ hm).2.1;omega
 ·intro i hi;rcases dW.1 hi with hi|hi
  ·rw[bK.1 hi];exact⟨.inl s.agree.next,vj,λhz=>absurd (w.ni _ hz) (Nat.lt_irrefl _)⟩
  ·exact⟨(h3 i hi).1,by have:=(h3 i hi).2.1;omega,(h3 i hi).2.2⟩
theorem abu{E:Enc α}{b':Nat}{s:Operand}{xs:List α}{a:α}{y:E.Y}{k1 k2:List OA}(hn:Nat.blt d n=true)(hg:bZ l g=true)
 (hs:ev l s=v) (hx:ev l x=.slice (some ⟨b',0,some 0⟩) 1 1) (hk:ay (ap E v xs) kl k1) (hc:ay (pt b' (.cells cs)) k1 k2) (hp:cs=E.pat a y) (hF:Sub (E.fs a y) F) (hz:E.n=size)
 (hm:(xs.length+1)*bytes<=1073741824/\(xs.length+1)*size<=1073741824/\xs.length+1<=1073741824):
 dN (R (λh=>aG P ds (⟨⟨some d,g,.append e size bytes s x⟩,[]⟩::rest) (act n l D pm ro) h K) B w0 kl F)
  (∀v',R (λh=>aG P ds rest (act n ((d,v')::l) D pm ro) h K) B w0 (ap E v' (xs++[a])::k2) F):=by
 refine⟨λr w st=>?_⟩;subst hp hz;have hlen:=E.len a y;have st2:St B w0 (ap E v xs::pt b' (.cells (E.pat a y))::k2) F w:=st.j4 (.cons hk (.cons hc .nil));have hat:At w.h b' (.cells (E.pat a y)):=st2.at_ (.there .here);have qZ:St B w0 (ap E v xs::k2) F w:=(st2.gK (.there .here)).tail;have hfs:∀f∈E.fs a y,f.p w:=λf hf=>st.facts f (hF.mem f hf);have hread:w.h.iW b' 0 (1*E.n)=some (E.pat a y):=by
  rw[hat.c.iW,qV,sD,A7,CS,if_pos vj,<- hlen,bJ]
 have hx1:oH (ev l x)=some (0+1):=by rw[hx];rfl
 have hx2:mX E.n (0+1) (ev l x) w.h=some (E.pat a y):=by rw[hx];exact hread
 -- what lies there afterwards
 have put:∀(w':Wd) (c:Nat) (f:Nat) (cells:List Value),cells.length=xs.length*E.n->(∀(k:Nat) z,xs[k]? =some z->∃y,(∀(j:Nat) u,(E.pat z y)[j]? =some u->cells[k*E.n+j]? =some u)/\∀f∈E.fs z y,f.p w')->(∀f∈E.fs a y,f.p w')->
  (f=0\/f=E.n)->∀S,(pt c (.cells (cells++E.pat a y))).p w' S->(ap E (.slice (some ⟨c,0,some f⟩) (xs.length+1) (xs.length+1)) (xs++[a])).p w' S:=by
  intro w' c f cells h1 h2 h3 h4 S hp;refine .inr ⟨c,0,f,_,by rw[iE];rfl,h4,hp.1,hp.2,by rw[iE,iE,h1,hlen,zk,rW,A7,fC],λk z hk=>?_⟩;by_cases hlt:k<xs.length
  ·exact nl
  ·exact j7
 obtain⟨S,⟨S1,S2,q,q2,e1⟩,hnd,hown⟩:=qZ.own;rcases q with⟨rfl,rfl,rfl⟩|⟨b,o,f,cells,rfl,hf,rfl,hb,hcl,hel⟩
 ·refine aau (c:=0) hn hg hs hx1 hx2 (by simpa using hm) λh' ag sO hnx=>?_;obtain⟨w',rfl,lF⟩:=qZ.tail.fresh ag sO hnx;refine r _ w' (lF.BI λS hp=>?_);have hle:∀f∈E.fs a y,f.p w':=λf hf=>lF.facts f (hF.mem f hf);exact put w' _ E.n [] vm (λk z hk=>by cases hk) hle (.inr rfl) S hp
 ·have D9:St B w0 (pt b (.cells cells)::k2) F w:=⟨qZ.agree,qZ.le,qZ.gF,⟨S,⟨_,S2,⟨rfl,hb⟩,q2,e1⟩,hnd,hown⟩,qZ.facts⟩
  have L6:At w.h b (.cells cells):=D9.at_ .here;refine QV (old:=cells.drop o) (xs:=E.pat a y) hn hg hs hx1 hx2 ?_ (hf.elim (λe=>.inl xT) λe=>.inr xT) hm λh' mv=>?_
  ·exact oT
  obtain⟨w',rfl,lF,Ho⟩:=D9.move mv;refine r _ w' (lF.BI λS hp=>?_);exact fg
theorem abv{z:Int}{k:Nat}{d2:Nat}{g2:Option (Tmp×Bool)}(hn:Nat.blt d n=true)(hg:bZ l g=true)(hn2:Nat.blt d2 n=true)(hg2:∀u,bZ ((d,u)::l) g2=true)(hx:ev l x=v)(hi:ev l i=.int kk (k:Int))
 (hk:ay (ap ae v xs) kl kl') (hz:xs[k]? =some z):
 dN (R (λh=>aG P ds (⟨⟨some d,g,.nG 1 x i⟩,[]⟩::⟨⟨some d2,g2,.gB (.tmp d)⟩,[]⟩::rest) (act n l D pm ro) h K) B w0 kl F)
  (∀b o,R (λh=>aG P ds rest (act n ((d2,.int .i64 z)::(d,.pointer (some ⟨b,o,none⟩))::l) D pm ro) h K) B w0 kl F):=by
 refine⟨λr w s=>?_⟩;have s1:=s.gK hk;obtain⟨S,⟨S1,S2,p,p2,e⟩,h2,h3⟩:=s1.own;have hlt:=(bC.1 hz).1;rcases p with⟨h,_⟩|⟨b,o,f,cells,e1,hf,e2,hb,hcl,hel⟩
 ·rw[h]at hz;cases hz
 ·subst e1;obtain⟨y,u1,_⟩:=hel k z hz;have hc:cells[o+(k:Int).toNat*1]? =some (.int .i64 z):=by
   exact rS
  refine LG hn hg hx hi vj vj ?_;have hbS:b∈S:=Bk
  exact Gv hn2 (hg2 _) Bm ⟨(h3 b hbS).2.1,hb⟩ hc (r _ _ w s)
end
end Go.Ideal
namespace Go.Ideal
variable {P:Program} {ρ:Operand->Value}
variable{t:TypeId}
theorem rq{d:TypeDesc}(ht:P.underlying t=some d):dV P (underlying t)=some d:=by
 unfold underlying;rw[gY];show(some P).bind _=_;simp only[Option.bind,ht];rfl
variable{x y:Operand}{op:BinOp}
theorem BK{a b:Value}(ha:∀c,a≠.agg c)(hn:a≠.nilIface):dV P (eqGuard op t x y a b)=some ():=by
 cases a with
 |nilIface=>exact absurd rfl hn
 |agg c=>exact absurd rfl (ha c)
 |_=>cases op<;>rfl
theorem Rj{a b:Bool}(ht:P.underlying t=some .bool):lU P .eql t x y (.bool a) (.bool b)=some (.bool (a==b))/\lU P .neq t x y (.bool a) (.bool b)=some (.bool (a !=b)):=by
 have he:dV P (Op.equal t (.bool a) (.bool b))=some (a==b):=by
  show dV P (Op.equalIn (9999+1) t (.bool a) (.bool b))=_;unfold Op.equalIn;rw[gY,rq ht];rfl
 have h1:kv P (do eqGuard .eql t x y (.bool a) (.bool b);binOp .eql t (.bool a) (.bool b))=some (.bool (a==b)):=by
  exact ju
 have h2:kv P (do eqGuard .neq t x y (.bool a) (.bool b);binOp .neq t (.bool a) (.bool b))=some (.bool (a !=b)):=by
  exact ju
 exact⟨h1,h2⟩
theorem Hq{a b:Bool}(hx:ρ x=.bool a)(hy:ρ y=.bool b)(ht:P.underlying t=some .bool):Pu P ρ (.bin .eql t x y) (.bool (a==b)):=λh=>by
 simp only[aB.run,hx,hy,(Rj ht).1]
theorem Hr{a b:Bool}(hx:ρ x=.bool a)(hy:ρ y=.bool b)(ht:P.underlying t=some .bool):Pu P ρ (.bin .neq t x y) (.bool (a !=b)):=λh=>by
 simp only[aB.run,hx,hy,(Rj ht).2]
variable{v:Value}
theorem Rk{a b:ByteArray}(hv:dV P (Op.stringOp op a b)=some v)(hf:bY v=true):lU P op t x y (.string a) (.string b)=some v:=by
 have h1:kv P (do eqGuard op t x y (.string a) (.string b);binOp op t (.string a) (.string b))=some v:=by
  unfold kv;rw[gY,BK (by intro c e;cases e) AF];have hb:binOp op t (.string a) (.string b)=Op.stringOp op a b:=by cases op<;>rfl
  simp only[iV,hb,hv,hf,cond]
 exact h1
theorem Ht{a b:ByteArray}(hx:ρ x=.string a)(hy:ρ y=.string b):Pu P ρ (.bin .eql t x y) (.bool (a.toList==b.toList)):=λh=>by
 simp only[aB.run,hx,hy,Rk (op:=.eql) (v:=.bool (a.toList==b.toList)) rfl rfl]
theorem Hu{a b:ByteArray}(hx:ρ x=.string a)(hy:ρ y=.string b):Pu P ρ (.bin .neq t x y) (.bool (!(a.toList==b.toList))):=λh=>by
 simp only[aB.run,hx,hy,Rk (op:=.neq) (v:=.bool (!(a.toList==b.toList))) rfl rfl]
variable{a b:Int}
theorem zX(hq:pg op .i64 a b=none)(hv:dV P (binOp op t (.int .i64 a) (.int .i64 b))=some v)(hf:bY v=true):lU P op t x y (.int .i64 a) (.int .i64 b)=some v:=by
 have h1:kv P (do eqGuard op t x y (.int .i64 a) (.int .i64 b);binOp op t (.int .i64 a) (.int .i64 b))=some v:=by
  unfold kv;rw[gY,BK (by intro c e;cases e) AF];simp only[iV,hv,hf,cond]
 unfold lU;simp only[uZ,cond,hq,bY,JN];exact h1
theorem wrap64{m:Int}(h1: -9223372036854775808<=m)(h2:m<9223372036854775808):IntKind.i64.wrap m=m:=IntWalk.i64_in m ⟨h1,vj⟩
theorem Hw(hx:ρ x=.int .i64 a)(hy:ρ y=.int .i64 b)(h1: -9223372036854775808<=a*b)(h2:a*b<9223372036854775808):Pu P ρ (.bin .mul t x y) (.int .i64 (a*b)):=λh=>by
 simp only[aB.run,hx,hy];rw[zX (op:=.mul) (v:=.int .i64 (a*b)) rfl (by
  show dV P (Op.intArith .mul .i64 a b)=_;show some (Value.int .i64 (IntKind.i64.wrap (a*b)))=_;rw[wrap64 h1 h2]) rfl]
theorem Hy(hx:ρ x=.int .i64 a)(hy:ρ y=.int .i64 b)(hb:b≠0)(h1: -9223372036854775808<=a.tdiv b)(h2:a.tdiv b<9223372036854775808):Pu P ρ (.bin .quo t x y) (.int .i64 (a.tdiv b)):=λh=>by
 simp only[aB.run,hx,hy];rw[zX (op:=.quo) (v:=.int .i64 (a.tdiv b)) rfl (by
  show dV P (Op.intDiv .quo .i64 a b)=_;unfold Op.intDiv;rw[if_neg hb];show some (Value.int .i64 (IntKind.i64.wrap (a.tdiv b)))=_;rw[wrap64 h1 h2]) rfl]
theorem L8(hx:ρ x=.int .i64 a)(hy:ρ y=.int .i64 b)(hb:b≠0):Pu P ρ (.bin .rem t x y) (.int .i64 (a.tmod b)):=λh=>by
 simp only[aB.run,hx,hy];rw[zX (op:=.rem) (v:=.int .i64 (a.tmod b)) rfl (by
  show dV P (Op.intDiv .rem .i64 a b)=_;unfold Op.intDiv;rw[if_neg hb];rfl) rfl]
theorem Hz{i:Operand}{size b o m c k:Nat}{f:Option Nat}{kk:IntKind}(hx:ρ x=.slice (some ⟨b,o,f⟩) m c)(hi:ρ i=.int kk (k:Int))(h1:k<m):
 Pu P ρ (.nG size x i) (.pointer (some ⟨b,o+k*size,none⟩)):=D8 (k:=(k:Int)) hx hi vj vj
end Go.Ideal
namespace Go.Ideal
variable {P:Program}
def Left{Y:Type}(B:List Nat)(w0:Wd)(val:Y->Value)(kl':Y->List OA)(fs:Y->List aK)(pr:Y->Prop):KR:=λr pm h'=>
 pm=none/\∃(w':Wd) (y:Y),w'.h=h'/\St B w0 (kl' y) (fs y) w'/\r=.ok (val y)/\pr y
def aU{Y:Type}(P:Program)(fn:Fn)(args cap:List Value)(kl:List OA)(F:List aK)(val:Y->Value)(kl':Y->List OA)(fs:Y->List aK)(pr:Y->Prop):Prop:=
 ∀(B:List Nat) (w:Wd),St B w kl F w->CALL P ⟨fn,args,cap,none⟩ w.h (Left B w val kl' fs pr)
def pK:Nat->List Value->List (Nat×Value)->List (Nat×Value)
 |_,[],l=>l
 |i,v::vs,l=>pK (i+1) vs ((i,v)::l)
theorem Rl:∀(args:List Value) (i:Nat) (l:List (Nat×Value)),wF args i (iQ l)=iQ (pK i args l)
 |[],i,l=>rfl
 |v::vs,i,l=>by
  show wF vs (i+1) (iQ ((i,v)::l))=_;rw[Rl vs];rfl
theorem L9(n:Nat)(args:List Value)(pm:Option FrameMode):zy n args pm=act (qR n (iF args)) (pK 0 args []) [] pm none:=by
 show aV.mk _ (wF args 0 (iQ [])) _ _ _=_;rw[Rl];rfl
theorem abw{Y:Type}{f:FuncId}{args cap:List Value}{kl:List OA}{F:List aK}{val:Y->Value}{kl':Y->List OA}{fs:Y->List aK}{pr:Y->Prop}(cf:gU)(hF:(pu P qi pz).F f=some cf)
 (hb:∀B w0,R (λh=>EV P cf.body (act (qR cf.ntmps (iF (args++cap))) (pK 0 (args++cap) []) [] none none) h (BF cf (Left B w0 val kl' fs pr))) B w0 kl F):aU P (.func f) args cap kl F val kl' fs pr:=by
 intro B w s;obtain⟨fn,h1,h2⟩:=(BD P qi pz (λf q h v h' hm=>by cases hm)).fn f cf hF;refine aaj fn h1 cf h2 ?_;rw[L9];exact hb B w w s
section
variable {B:List Nat} {w0:Wd} {kl kl' bG:List OA} {F:List aK} {K:KO} {ds:List Tmp} {rest:List bT} {n:Nat} {l:List (Nat×Value)} {D:List Deferred} {pm:Option FrameMode} {ro:Option Nat} {d:Nat} {g:Option (Tmp×Bool)}
theorem St.call{w w':Wd}{k1 k1' bG:List OA}{F1 F':List aK}{S1 S2:List Nat}(s:St B w0 kl F w)(hp:∃S:List Nat,S.Perm (S1++S2)/\S.Nodup/\∀i∈S,(w0.h.next<=i\/i∈B)/\i<w.h.next/\¬w.z i)
 (h2:fB w bG S2) (c:St S1 w k1' F' w'):St B w0 (k1'++bG) (F'++F) w':=by
 obtain⟨S,hperm,abx,hall⟩:=hp;have hnd:=hperm.nodup abx;have hall:∀i∈S1++S2,(w0.h.next<=i\/i∈B)/\i<w.h.next/\¬w.z i:=λi hi=>hall i (hperm.mem_iff.2 hi)
 have hd:=gX.1 hnd;obtain⟨S',c1,c2,c3⟩:=c.own;have hsame:∀i∈S2,w'.h.get i=w.h.get i:=λi hi=>c.agree.get i (hall i (oF _ hi)).2.1 (λhm=>hd.2.2 i hm i hi rfl);refine⟨⟨oW s.agree.next c.agree.next,λi hi hB=>?_,λa b=>?_⟩,s.le.trans c.le,λi hi hz=>?_,⟨S'++S2,c1.app (fB.loc c.le hsame h2),?_,?_⟩,λf hf=>?_⟩
 ·rw[<- s.agree.get i hi hB];refine c.agree.get i (lS hi s.agree.next) (λhm=>?_);rcases(hall i (jW _ hm)).1 with q|q
  ·omega
  ·exact hB q
 ·have hl:=s.agree.low a b;rw[c.agree.low (by rw[hl];exact oW a s.agree.next) (λi hi=>?_),hl];rw[hl];rcases(hall i (jW _ hi)).1 with q|q
  ·omega
  ·exact b i q
 ·rcases c.gF i (lS hi s.agree.next) hz with q|q
  ·exact s.gF i hi q
  ·rcases(hall i (jW _ q)).1 with u|u
   ·omega
   ·exact .inr u
 ·refine gX.2 ⟨c2,hd.2.1,λa ha b hb e=>?_⟩;subst e;rcases(c3 a ha).1 with q|q
  ·have:=(hall a (oF _ hb)).2.1;omega
  ·exact hd.2.2 a q a hb rfl
 ·intro i hi;rcases dW.1 hi with hi|hi
  ·refine⟨?_,(c3 i hi).2⟩;rcases(c3 i hi).1 with q|q
   ·exact .inl (oW s.agree.next q)
   ·exact(hall i (jW _ q)).1
  ·have q:=hall i (oF _ hi);refine⟨q.1,lS q.2.1 c.agree.next,λhz=>?_⟩;rcases c.gF i q.2.1 hz with u|u
   ·exact q.2.2 u
   ·exact hd.2.2 i u i hi rfl
 ·rcases dW.1 hf with hf|hf
  ·exact c.facts f hf
  ·exact f.mono c.le (s.facts f hf)
def Same(P:Program)(re:List ik)(ρ:Operand->Value)(l:List (Nat×Value))(B:List Nat)(w0:Wd)(kl:List OA)(F:List aK):Prop:=
 ∀w,St B w0 kl F w->∀r∈re,∃u h2,r.op.run P ρ w.h=some (u,h2)/\∀d',r.dst=some d'->lk l d'=u
theorem BL{ρ:Operand->Value}:Same P [] ρ l B w0 kl F:=λw s r hr=>by cases hr
variable{re:List ik}{x:Operand}{b o:Nat}{cs:List Value}{v:Value}
theorem BM(hx:ev l x=.pointer (some ⟨b,o,none⟩))(hk:ay (pt b (.cells cs)) kl kl')(hv:jD cs o=some v)(hd:lk l d=v)
 (t:Same P re (ev l) l B w0 kl F):Same P (⟨some d,g,.gB x⟩::re) (ev l) l B w0 kl F:=λw s r hr=>by
 rcases dH.1 hr with rfl|hr
 ·have hc:w.h.nU b o=some v:=by rw[(s.at_ hk).c.nU,<- ql];exact hv
  exact⟨v,w.h,by simp only[aB.run,hx,hc],λd' e=>by cases e;exact hd⟩
 ·exact t w s r hr
theorem Ea(hx:ev l x=.pointer (some ⟨b,o,none⟩))(hk:fA b o cs∈F)(hv:jD cs 0=some v)(hd:lk l d=v)
 (t:Same P re (ev l) l B w0 kl F):Same P (⟨some d,g,.gB x⟩::re) (ev l) l B w0 kl F:=λw s r hr=>by
 rcases dH.1 hr with rfl|hr
 ·exact⟨v,w.h,by simp only[aB.run,hx,show w.h.nU b o=some v from Hf (j:=0) (s.facts _ hk) hv],λd' e=>by cases e;exact hd⟩
 ·exact t w s r hr
variable{j:Nat}
theorem Eb(hx:ev l x=.pointer (some ⟨b,o+j,none⟩))(hk:fA b o cs∈F)(hv:jD cs j=some v)(hd:lk l d=v)
 (t:Same P re (ev l) l B w0 kl F):Same P (⟨some d,g,.gB x⟩::re) (ev l) l B w0 kl F:=λw s r hr=>by
 rcases dH.1 hr with rfl|hr
 ·exact⟨v,w.h,by simp only[aB.run,hx,Hf (s.facts _ hk) hv],λd' e=>by cases e;exact hd⟩
 ·exact t w s r hr
variable{m:Nat}{c:List Value}
theorem Ec(hx:ev l x=.pointer (some ⟨b,o,none⟩))(hk:ay (pt b (.cells cs)) kl kl')(hv:jd (jE cs o) m=some c)(hd:lk l d=.agg ⟨c⟩)
 (t:Same P re (ev l) l B w0 kl F):Same P (⟨some d,g,.qc m x⟩::re) (ev l) l B w0 kl F:=λw s r hr=>by
 rcases dH.1 hr with rfl|hr
 ·have hc:w.h.iW b o m=some c:=by rw[(s.at_ hk).c.iW];exact hv
  exact⟨.agg ⟨c⟩,w.h,by simp only[aB.run,hx,hc],λd' e=>by cases e;exact hd⟩
 ·exact t w s r hr
theorem Ed(hx:ev l x=.pointer (some ⟨b,o,none⟩))(hk:fA b o cs∈F)(hv:jd cs m=some c)(hd:lk l d=.agg ⟨c⟩)
 (t:Same P re (ev l) l B w0 kl F):Same P (⟨some d,g,.qc m x⟩::re) (ev l) l B w0 kl F:=λw s r hr=>by
 rcases dH.1 hr with rfl|hr
 ·exact⟨.agg ⟨c⟩,w.h,by simp only[aB.run,hx,show w.h.iW b o m=some c from Hg (j:=0) (s.facts _ hk) (by rw[qV];exact hv)],λd' e=>by cases e;exact hd⟩
 ·exact t w s r hr
theorem Ee(hx:ev l x=.pointer (some ⟨b,o+j,none⟩))(hk:fA b o cs∈F)(hv:jd (jE cs j) m=some c)(hd:lk l d=.agg ⟨c⟩)
 (t:Same P re (ev l) l B w0 kl F):Same P (⟨some d,g,.qc m x⟩::re) (ev l) l B w0 kl F:=λw s r hr=>by
 rcases dH.1 hr with rfl|hr
 ·exact⟨.agg ⟨c⟩,w.h,by simp only[aB.run,hx,Hg (s.facts _ hk) hv],λd' e=>by cases e;exact hd⟩
 ·exact t w s r hr
variable{op:aB}
theorem Rm(hp:Pu P (ev l) op v)(hd:lk l d=v)(t:Same P re (ev l) l B w0 kl F):Same P (⟨some d,g,op⟩::re) (ev l) l B w0 kl F:=λw s r hr=>by
 rcases dH.1 hr with rfl|hr
 ·exact⟨v,w.h,hp w.h,λd' e=>by cases e;exact hd⟩
 ·exact t w s r hr
variable{vs:List Value}
theorem aby{y:Operand}(hg:bZ l g=true)(hx:ev l x=.pointer (some ⟨b,o,none⟩))(hw:ev l y=v)(hy:cellsOf v=some vs)(hm:Nat.beq (iF vs) m=true)
 (hk:ay (pt b (.cells cs)) kl kl') (hv:jK cs o vs=some c) (hs:Same P re (ev l) l B w0 (pt b (.cells c)::kl') F):
 dN (R (λh=>aG P ds (⟨⟨none,g,.store m x y⟩,re⟩::rest) (act n l D pm ro) h K) B w0 kl F) (R (λh=>aG P ds rest (act n l D pm ro) h K) B w0 (pt b (.cells c)::kl') F):=
 ⟨λr w s=>by
  subst hw;have s':=(s.gK hk).write (o':=.cells c);refine .kW (vD hg) dO (w.h.set b (.cells c)) (by rw[ng];simp only[aB.run,hx,hy,hm];simp only[IH.storeAt,(s.at_ hk).2,hv];rfl) (λq hq _=>?_) (r _ s');obtain⟨u,h2,e1,e2⟩:=hs _ s' q hq;exact⟨u,h2,by show q.op.run P (act n l D pm ro).eval _=_;rw[ng];exact e1,λd' hd=>by rw[<- e2 d' hd];exact uy _ _⟩⟩
theorem abz(hn:Nat.blt d n=true)(hg:bZ l g=true)(hp:Pu P (ev l) op v)(hs:Same P re (ev ((d,v)::l)) ((d,v)::l) B w0 kl F):
 dN (R (λh=>aG P ds (⟨⟨some d,g,op⟩,re⟩::rest) (act n l D pm ro) h K) B w0 kl F) (R (λh=>aG P ds rest (act n ((d,v)::l) D pm ro) h K) B w0 kl F):=
 ⟨λr w s=>by
  refine .kW (vD hg) v w.h (by rw[ng];exact hp w.h) (λq hq _=>?_) (by rw[pJ hn];exact r w s);obtain⟨u,h2,e1,e2⟩:=hs w s q hq;exact lE⟩
variable{Y:Type}
theorem abA{f:Operand}{xs:List Operand}{fn:Fn}{first captured as:List Value}{k1:List OA}{F1:List aK}{val:Y->Value}{k1':Y->List OA}{fs:Y->List aK}{pr:Y->Prop}
 (hc:aU P fn as captured k1 F1 val k1' fs pr) (hn:Nat.blt d n=true) (hg:bZ l g=true) (hf:ev l f=.func fn ⟨first⟩ ⟨captured⟩) (hx:EvL (ev l) xs vs) (ha:first++vs=as)
 (hk:aI k1 kl bG) (hF:Sub F1 F)
 (hs:∀y,pr y->Same P re (ev ((d,val y)::l)) ((d,val y)::l) B w0 (k1' y++bG) (fs y++F))
 (next:∀y,pr y->R (λh=>aG P ds rest (act n ((d,val y)::l) D pm ro) h K) B w0 (k1' y++bG) (fs y++F)):
 R (λh=>aG P ds (⟨⟨some d,g,.call f xs⟩,re⟩::rest) (act n l D pm ro) h K) B w0 kl F:=by
 intro w s;obtain⟨S,h1,h2,h3⟩:=s.own;obtain⟨S1,S2,q1,q2,hp⟩:=h1.j4 hk;have hsub:∀i∈S1,i∈S:=λi hi=>hp.mem_iff.2 (jW _ hi);have s1:St S1 w k1 F1 w:=⟨⟨bV _,λ_ _ _=>rfl,λ_ _=>rfl⟩,Wd.Le.refl w,λi _ hz=>.inl hz,⟨S1,q1,(gX.1 (hp.nodup h2)).1,λi hi=>⟨.inr hi,(h3 i (hsub i hi)).2⟩⟩,λf hf=>s.facts f (hF.mem f hf)⟩
 have hcall:=hc S1 w s1;subst ha;rw[<- hx.map]at hcall;have back:∀(w':Wd) (y:Y),St S1 w (k1' y) (fs y) w'->St B w0 (k1' y++bG) (fs y++F) w':=λw' y c=>s.call (k1:=k1) (F1:=F1) ⟨S,hp,h2,h3⟩ q2 c;refine s_call hn hg fn hf _ hcall ?_ ?_ ?_ ?_
 ·rintro v h' ⟨_,w',y,rfl,c,hv,hpr⟩;injection hv with hv;subst hv;exact hs y hpr w' (back w' y c)
 ·rintro v h' ⟨_,w',y,rfl,c,hv,hpr⟩;injection hv with hv;subst hv;exact next y hpr w' (back w' y c)
 ·rintro ch h' ⟨_,w',y,rfl,c,hv,hpr⟩;cases hv
 ·rintro r p h' ⟨e,_⟩;exact e
inductive RS(l:List (Nat×Value))(kl:List OA):List qf->List Value->Prop
 |nil:RS l kl [] []
 |tmp {t:Tmp} {rs:List qf} {v:Value} {vs:List Value} (h:lk l t=v) (r:RS l kl rs vs):RS l kl (.tmp t::rs) (v::vs)
 |cell1 {t:Tmp} {rs:List qf} {v:Value} {vs cs:List Value} {b o:Nat} {kl':List OA} (h:lk l t=.pointer (some ⟨b,o,none⟩)) (hk:ay (pt b (.cells cs)) kl kl') (hv:jD cs o=some v) (r:RS l kl rs vs):RS l kl (.cell1 t::rs) (v::vs)
 |qg {n:Nat} {t:Tmp} {rs:List qf} {vs cs c:List Value} {b o:Nat} {kl':List OA} (h:lk l t=.pointer (some ⟨b,o,none⟩)) (hk:ay (pt b (.cells cs)) kl kl') (hv:jd (jE cs o) n=some c) (r:RS l kl rs vs):
   RS l kl (.qg n t::rs) (.agg ⟨c⟩::vs)
theorem RS.all{w:Wd}(s:St B w0 kl F w):∀{rs:List qf} {vs:List Value},RS l kl rs vs->wG (iQ l) w.h rs=some vs
 |_,_,.nil=>rfl
 |_,_,.tmp (t:=t) (rs:=rs) (v:=v) (vs:=vs) h r=>by
  have ih:=RS.all s r;show(match sw (iQ l) w.h (.tmp t),wG (iQ l) w.h rs with|some v,some vs=>some (v::vs)|_,_=>none)=_;rw[ih];simp only[sw,uy,h]
 |_,_,.cell1 (t:=t) (rs:=rs) (v:=v) (vs:=vs) h hk hv r=>by
  have ih:=RS.all s r;show(match sw (iQ l) w.h (.cell1 t),wG (iQ l) w.h rs with|some v,some vs=>some (v::vs)|_,_=>none)=_;rw[ih];simp only[sw,uy,h,(s.at_ hk).2,hv]
 |_,_,.qg (n:=n) (t:=t) (rs:=rs) (vs:=vs) (c:=c) h hk hv r=>by
  have ih:=RS.all s r;show(match sw (iQ l) w.h (.qg n t),wG (iQ l) w.h rs with|some v,some vs=>some (v::vs)|_,_=>none)=_;rw[ih];simp only[sw,uy,h,IH.nT,(s.at_ hk).2,hv]
def uA(vs:List Value):Value:=
 match vs with
 |[v]=>v
 |vs=>.tuple ⟨vs⟩
theorem Rn{o:Out}{cf:gU}{val:Y->Value}{k1:Y->List OA}{fs:Y->List aK}{pr:Y->Prop}(y:Y)(hr:RS l kl cf.results vs)(hv:uA vs=val y)(hp:pr y)(hk:aI (k1 y) kl bG)(hF:Sub (fs y) F)
 (ho:o=.normal\/o=.ret):R (λh=>BF cf (Left B w0 val k1 fs pr) o (act n l [] none ro) h) B w0 kl F:=by
 intro w s;have h1:qh cf.results (iQ l) w.h=some (val y):=by
  unfold qh;rw[hr.all s];rw[<- hv];exact sX
 have h2:Left B w0 val k1 fs pr (.ok (val y)) none w.h:=⟨rfl,w,y,rfl,((s.j4 hk).drop).sub hF,rfl,hp⟩
 rcases ho with rfl|rfl
 ·exact⟨val y,h1,rfl,h2⟩
 ·exact⟨val y,h1,rfl,h2⟩
inductive lG{α:Type}(F0:List α):List α->Prop
 |here:lG F0 F0
 |cons {a:α} {F:List α} (h:lG F0 F):lG F0 (a::F)
 |app {G F:List α} (h:lG F0 F):lG F0 (G++F)
theorem lG.mem{α:Type}{F0:List α}:∀{F:List α},lG F0 F->∀f∈F0,f∈F
 |_,.here,f,hf=>hf
 |_,.cons h,f,hf=>dA _ (h.mem f hf)
 |_,.app h,f,hf=>oF _ (h.mem f hf)
inductive ru:List (Nat×Value)->List (Nat×Value)->List (Nat×Value)->Prop
 |nil {ks:List (Nat×Value)}:ru [] ks []
 |drop {k:Nat} {v:Value} {l ks r:List (Nat×Value)} (h:(ks.any λp=>Nat.beq p.1 k)=true) (t:ru l ks r):ru ((k,v)::l) ks r
 |keep {k:Nat} {v:Value} {l ks r:List (Nat×Value)} (h:(ks.any λp=>Nat.beq p.1 k)=false) (t:ru l ((k,v)::ks) r):ru ((k,v)::l) ks ((k,v)::r)
def LI{X:Type}(n:Nat)(D:List Deferred)(pm:Option FrameMode)(ro:Option Nat)(B:List Nat)(w0:Wd)(m:X->Nat)(L:X->List (Nat×Value))(KL:X->List OA)(FF:X->List aK)(inv:X->Prop)
 (l0:List (Nat×Value)) (bG:List OA) (F0:List aK):Nat->aV->IH->Prop:=λr a h=>
 ∃(x:X) (w:Wd),r=m x/\a=act n (L x++l0) D pm ro/\w.h=h/\St B w0 (KL x++bG) (FF x++F0) w/\inv x
variable{X:Type}
theorem abB{c:dB}(m:X->Nat)(L:X->List (Nat×Value))(KL:X->List OA)(FF:X->List aK)(inv:X->Prop)(x0:X)(hi:inv x0)(l0:List (Nat×Value))(hl:sub (L x0++l0) l)(hk:aI (KL x0) kl bG)(hF:Sub (FF x0) F)
 (body:∀x,inv x->R (λh=>EV P c (act n (L x++l0) D pm ro) h (wU (LI n D pm ro B w0 m L KL FF inv l0 bG F) (m x) K)) B w0 (KL x++bG) (FF x++F)):
 R (λh=>EV P (.loop c) (act n l D pm ro) h K) B w0 kl F:=by
 intro w s;refine QK (Lt hl) ?_;refine aai (LI n D pm ro B w0 m L KL FF inv l0 bG F) ?_ (m x0) _ _ ⟨x0,w,rfl,rfl,rfl,(s.j4 hk).add (λf hf=>s.facts f (hF.mem f hf)),hi⟩;rintro r a h ⟨x,w',rfl,rfl,rfl,s',hx⟩;exact body x hx w' s'
theorem abC{m:X->Nat}{L:X->List (Nat×Value)}{KL:X->List OA}{FF:X->List aK}{inv:X->Prop}{l0:List (Nat×Value)}{eU:List OA}{F0:List aK}{m0:Nat}(x:X)(hm:m x<m0)(hi:inv x)(hl:sub (L x++l0) l)
 (hk:aI (KL x++bG) kl eU) (hF:Sub (FF x) F) (zU:lG F0 F):R (λh=>wU (LI n D pm ro B w0 m L KL FF inv l0 bG F0) m0 K .normal (act n l D pm ro) h) B w0 kl F:=by
 intro w s;refine aat (m x) hm hl ⟨x,w,rfl,rfl,rfl,?_,hi⟩;have s':=(s.j4 hk).drop;exact⟨s'.agree,s'.le,s'.gF,s'.own,λf hf=>(dW.1 hf).elim (λhf=>s.facts f (hF.mem f hf)) (λhf=>s.facts f (zU.mem f hf))⟩
end
