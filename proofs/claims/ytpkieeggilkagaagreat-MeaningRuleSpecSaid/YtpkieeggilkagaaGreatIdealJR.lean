/-
  Part IdealJR.
-/
import Derived.Test.YtpkieeggilkagaaGreatIdealHR
set_option linter.all false
namespace Go.Ideal
variable {P:Program}
structure Wd where
 h:IH
 z:Nat->Prop
 nL:∀i,z i->i<h.next
structure Wd.Le(w w':Wd):Prop where
 next:w.h.next<=w'.h.next
 z:∀i,w.z i->w'.z i
 get:∀i,w.z i->w'.h.get i=w.h.get i
theorem Wd.Le.refl(w:Wd):w.Le w:=⟨bU _,λ_ h=>h,λ_ _=>rfl⟩
theorem Wd.Le.trans{w w' w'':Wd}(a:w.Le w')(b:w'.Le w''):w.Le w'':=
 ⟨oU a.next b.next,λi h=>b.z i (a.z i h),λi h=>(b.get i (a.z i h)).trans (a.get i h)⟩
structure aL where
 p:Wd->Prop
 mono:∀{w w':Wd},w.Le w'->p w->p w'
def Fz(w:Wd)(b:Nat)(cs:List Value):Prop:=w.z b/\(w.h.get b=some (.cells cs)\/w.h.get b=some (.jw cs))
theorem Fz.mono{w w':Wd}(a:w.Le w'){b:Nat}{cs:List Value}(h:Fz w b cs):Fz w' b cs:=⟨a.z b h.1,by rw[a.get b h.1];exact h.2⟩
theorem Fz.cells{w:Wd}{b:Nat}{cs:List Value}(h:Fz w b cs):Cells w.h b cs:=⟨w.nL b h.1,h.2⟩
def bZ(b o:Nat)(cs:List Value):aL:=
 ⟨λw=>∃cells,Fz w b cells/\∀(j:Nat) u,cs[j]? =some u->cells[o+j]? =some u,λa ⟨cells,h1,h2⟩=>⟨cells,h1.mono a,h2⟩⟩
structure Enc(α:Type) where
 n:Nat
 Y:Type
 pat:α->Y->List Value
 fs:α->Y->List aL
 len:∀a y,(pat a y).length=n
def Mv(n:Nat):Option Addr->Prop
 |none=>True
 |some ⟨_,_,some f⟩=>f=0\/f=n
 |some ⟨_,_,none⟩=>False
def ah{α:Type}(E:Enc α)(v:Value)(xs:List α):aL:=
 ⟨λw=>(xs=[]/\∃a c,v=.slice a 0 c/\Mv E.n a)\/∃i o f c cells,(v=.slice (some ⟨i,o,some f⟩) xs.length c/\xs.length<=c/\(f=0\/f=E.n))/\Fz w i cells/\
  ∀(k:Nat) x,xs[k]? =some x->∃y,(∀(j:Nat) u,(E.pat x y)[j]? =some u->cells[o+k*E.n+j]? =some u)/\∀f∈E.fs x y,f.p w,
  λa h=>by
   rcases h with h|⟨i,o,f,c,cells,h1,h2,h3⟩
   ·exact .inl h
   ·refine .inr ⟨i,o,f,c,cells,h1,h2.mono a,λk x hk=>?_⟩;obtain⟨y,q1,q2⟩:=h3 k x hk;exact⟨y,q1,λf hf=>f.mono a (q2 f hf)⟩⟩
def aa:Enc Int:=⟨1,Unit,λx _=>[.int .i64 x],λ_ _=>[],λ_ _=>rfl⟩
def lC:Enc Bool:=⟨1,Unit,λx _=>[.bool x],λ_ _=>[],λ_ _=>rfl⟩
def bF:Enc ByteArray:=⟨1,Unit,λx _=>[.string x],λ_ _=>[],λ_ _=>rfl⟩
def ax{α:Type}(E:Enc α):Enc (List α):=⟨1,Value,λ_ v=>[v],λxs v=>[ah E v xs],λ_ _=>rfl⟩
structure OA where
 p:Wd->List Nat->Prop
 loc:∀{w w':Wd} {S:List Nat},w.Le w'->(∀i∈S,w'.h.get i=w.h.get i)->p w S->p w' S
def pt(b:Nat)(o:dH):OA:=⟨λw S=>S=[b]/\w.h.get b=some o,λa h ⟨h1,h2⟩=>⟨h1,by rw[h b (by rw[h1];exact bM.2 rfl)];exact h2⟩⟩
def ap{α:Type}(E:Enc α)(v:Value)(xs:List α):OA:=
 ⟨λw S=>(xs=[]/\v=.slice none 0 0/\S=[])\/∃b o f cells,v=.slice (some ⟨b,o,some f⟩) xs.length xs.length/\(f=0\/f=E.n)/\S=[b]/\w.h.get b=some (.cells cells)/\cells.length=o+xs.length*E.n/\
  ∀(k:Nat) x,xs[k]? =some x->∃y,(∀(j:Nat) u,(E.pat x y)[j]? =some u->cells[o+k*E.n+j]? =some u)/\∀f∈E.fs x y,f.p w,
  λa h hp=>by
   rcases hp with hp|⟨b,o,f,cells,h1,h2,h3,h4,h5,h6⟩
   ·exact .inl hp
   ·refine .inr ⟨b,o,f,cells,h1,h2,h3,by rw[h b (by rw[h3];exact bM.2 rfl)];exact h4,h5,λk x hk=>?_⟩;obtain⟨y,q1,q2⟩:=h6 k x hk;exact⟨y,q1,λf hf=>f.mono a (q2 f hf)⟩⟩
def eU(w:Wd):List OA->List Nat->Prop
 |[],S=>S=[]
 |A::kl,S=>∃S1 S2,A.p w S1/\eU w kl S2/\S=S1++S2
theorem eU.loc{w w':Wd}(a:w.Le w'):∀{kl:List OA} {S:List Nat},(∀i∈S,w'.h.get i=w.h.get i)->eU w kl S->eU w' kl S
 |[],S,_,h=>h
 |A::kl,S,hs,⟨S1,S2,h1,h2,e⟩=>⟨S1,S2,A.loc a (λi hi=>hs i (by rw[e];exact kZ _ hi)) h1,eU.loc a (λi hi=>hs i (by rw[e];exact qp _ hi)) h2,e⟩
theorem eU.app{w:Wd}:∀{k1 k2:List OA} {S1 S2:List Nat},eU w k1 S1->eU w k2 S2->eU w (k1++k2) (S1++S2)
 |[],k2,S1,S2,h1,h2=>by
  have h1:S1=[]:=h1;subst h1;exact h2
 |A::k1,k2,_,S2,⟨T1,T2,q1,q2,e⟩,h2=>⟨T1,T2++S2,q1,q2.app h2,by rw[e,fI]⟩
inductive aA{α:Type}(A:α):List α->List α->Prop
 |here {l:List α}:aA A (A::l) l
 |there {C:α} {l l':List α} (h:aA A l l'):aA A (C::l) (C::l')
inductive aJ{α:Type}:List α->List α->List α->Prop
 |nil {l:List α}:aJ [] l l
 |cons {A:α} {k l l' l'':List α} (h:aA A l l') (h2:aJ k l' l''):aJ (A::k) l l''
theorem aA.app{α:Type}{A:α}{l l':List α}(h:aA A l l'):∀k:List α,aA A (k++l) (k++l')
 |[]=>h
 |_::k=>.there (aA.app h k)
theorem aJ.self{α:Type}:∀k r:List α,aJ k (k++r) r
 |[],_=>.nil
 |_::k,r=>.cons .here (aJ.self k r)
theorem aJ.all{α:Type}(k:List α):aJ k k []:=by
 have:=aJ.self k []
 rwa [gV]at this
theorem aJ.there{α:Type}{k l l':List α}(A:α)(h:aJ k l l'):aJ k (A::l) (A::l'):=by
 induction h with
 |nil=>exact .nil
 |cons h1 _ ih=>exact .cons (.there h1) ih
theorem eU.fZ{w:Wd}{A:OA}:∀{kl kl':List OA} {S:List Nat},aA A kl kl'->eU w kl S->∃S',eU w (A::kl') S'/\S.Perm S'
 |_,_,S,.here,h=>⟨S,h,.refl _⟩
 |_,_,_,.there s,⟨S1,S2,h1,h2,e⟩=>by
  obtain⟨S',⟨T1,T2,q1,q2,e'⟩,hp⟩:=eU.fZ s h2;subst e e';refine⟨T1++(S1++T2),⟨T1,_,q1,⟨S1,T2,h1,q2,rfl⟩,rfl⟩,?_⟩;have:(S1++S2).Perm (S1++(T1++T2)):=hp.append_left S1;refine this.trans ?_;rw[<- fI,<- fI];exact List.Perm.append_right T2 List.perm_append_comm
theorem eU.jH{w:Wd}:∀{k kl kl':List OA} {S:List Nat},aJ k kl kl'->eU w kl S->∃S1 S2,eU w k S1/\eU w kl' S2/\S.Perm (S1++S2)
 |_,_,_,S,.nil,h=>⟨[],S,rfl,h,.refl _⟩
 |_,_,_,S,.cons s r,h=>by
  obtain⟨S',⟨T1,T2,q1,q2,e⟩,hp⟩:=h.fZ s;obtain⟨U1,U2,u1,u2,hu⟩:=eU.jH r q2;subst e;exact⟨T1++U1,U2,⟨T1,U1,q1,u1,rfl⟩,u2,hp.trans (by rw[fI];exact hu.append_left T1)⟩
inductive Sub{α:Type}:List α->List α->Prop
 |nil {l:List α}:Sub [] l
 |cons {a:α} {k l:List α} (h:a∈l) (h2:Sub k l):Sub (a::k) l
theorem Sub.mem{α:Type}:∀{k l:List α},Sub k l->∀x∈k,x∈l
 |_,_,.nil,x,hx=>by cases hx
 |_,_,.cons h h2,x,hx=>by
  cases hx with
  |head=>exact h
  |tail _ hx=>exact h2.mem x hx
structure aaT(B:List Nat)(h h':IH):Prop where
 next:h.next<=h'.next
 get:∀i,i<h.next->i∉B->h'.get i=h.get i
 low:h.low<=h.next->(∀b∈B,h.low<=b)->h'.low=h.low
structure St(B:List Nat)(w0:Wd)(kl:List OA)(F:List aL)(w:Wd):Prop where
 agree:aaT B w0.h w.h
 le:w0.Le w
 gp:∀i,i<w0.h.next->w.z i->w0.z i\/i∈B
 own:∃S,eU w kl S/\S.Nodup/\∀i∈S,(w0.h.next<=i\/i∈B)/\i<w.h.next/\¬w.z i
 facts:∀f∈F,f.p w
section
variable {B:List Nat} {w0 w:Wd} {kl:List OA} {F:List aL}
theorem St.jH{k kl':List OA}(s:aJ k kl kl')(h:St B w0 kl F w):St B w0 (k++kl') F w:=by
 obtain⟨S,h1,h2,h3⟩:=h.own;obtain⟨S1,S2,q1,q2,hp⟩:=h1.jH s;exact⟨h.agree,h.le,h.gp,⟨S1++S2,q1.app q2,hp.nodup h2,λi hi=>h3 i (hp.mem_iff.2 hi)⟩,h.facts⟩
theorem St.fZ{A:OA}{kl':List OA}(s:aA A kl kl')(h:St B w0 kl F w):St B w0 (A::kl') F w:=h.jH (.cons s .nil)
theorem St.drop{k kl':List OA}(h:St B w0 (k++kl') F w):St B w0 k F w:=by
 obtain⟨S,h1,h2,h3⟩:=h.own;have:∀{k:List OA} {S:List Nat},eU w (k++kl') S->∃S1 S2,eU w k S1/\S=S1++S2:=by
  intro k;induction k with
  |nil=>intro S hS;exact⟨[],S,rfl,rfl⟩
  |cons A k ih=>
   rintro S ⟨T1,T2,q1,q2,e⟩;obtain⟨S1,S2,u1,u2⟩:=ih q2;exact⟨T1++S1,S2,⟨T1,S1,q1,u1,rfl⟩,by rw[e,u2,fI]⟩
 obtain⟨S1,S2,q1,e⟩:=this h1;subst e;exact⟨h.agree,h.le,h.gp,⟨S1,q1,(iq.1 h2).1,λi hi=>h3 i (kZ _ hi)⟩,h.facts⟩
theorem St.sub{F':List aL}(s:Sub F' F)(h:St B w0 kl F w):St B w0 kl F' w:=⟨h.agree,h.le,h.gp,h.own,λf hf=>h.facts f (s.mem f hf)⟩
theorem St.add{F':List aL}(h:St B w0 kl F w)(hf:∀f∈F',f.p w):St B w0 kl (F'++F) w:=
 ⟨h.agree,h.le,h.gp,h.own,λf h1=>(dB.1 h1).elim (hf f) (h.facts f)⟩
theorem St.get{b:Nat}{o:dH}(h:St B w0 (pt b o::kl) F w):w.h.get b=some o/\b<w.h.next/\(w0.h.next<=b\/b∈B):=by
 obtain⟨S,⟨S1,S2,⟨e1,q1⟩,_,e⟩,h2,h3⟩:=h.own;have hb:b∈S:=by rw[e,e1];simp
 exact⟨q1,(h3 b hb).2.1,(h3 b hb).1⟩
theorem St.at_{b:Nat}{o:dH}{kl':List OA}(s:aA (pt b o) kl kl')(h:St B w0 kl F w):At w.h b o:=⟨(h.fZ s).get.2.1,(h.fZ s).get.1⟩
noncomputable def Wd.new(w:Wd)(o:dH):Wd:=⟨w.h.new o,w.z,λi hi=>Km (w.nL i hi)⟩
theorem St.new(h:St B w0 kl F w)(o:dH):St B w0 (pt w.h.next o::kl) F (w.new o):=by
 have hg:∀i,i<w.h.next->(w.h.new o).get i=w.h.get i:=λi hi=>by rw[IH.jk,if_neg (by omega)]
 have hle:w.Le (w.new o):=⟨Bu _,λ_ h=>h,λi hi=>hg i (w.nL i hi)⟩
 obtain⟨S,h1,h2,h3⟩:=h.own;refine⟨⟨Nat.le_succ_of_le h.agree.next,λi hi hb=>(hg i (mJ hi h.agree.next)).trans (h.agree.get i hi hb),λa b=>h.agree.low a b⟩,h.le.trans hle,h.gp,
  ⟨[w.h.next]++S,⟨[w.h.next],S,⟨rfl,by show(w.h.new o).get _=_;rw[IH.jk,if_pos rfl]⟩,eU.loc hle (λi hi=>hg i (h3 i hi).2.1) h1,rfl⟩,?_,?_⟩,λf hf=>f.mono hle (h.facts f hf)⟩
 ·refine BA.2 ⟨λhm=>?_,h2⟩;have:=(h3 _ hm).2.1;omega
 ·intro i hi;rcases dB.1 hi with hi|hi
  ·rw[bM.1 hi];exact⟨.inl h.agree.next,uX _,λhz=>absurd (w.nL _ hz) (Nat.lt_irrefl _)⟩
  ·exact⟨(h3 i hi).1,Km (h3 i hi).2.1,(h3 i hi).2.2⟩
theorem St.write{b:Nat}{o o':dH}(h:St B w0 (pt b o::kl) F w):St B w0 (pt b o'::kl) F ⟨w.h.set b o',w.z,λi hi=>w.nL i hi⟩:=by
 obtain⟨S,⟨S1,S2,⟨e1,q1⟩,q2,e⟩,h2,h3⟩:=h.own;subst e e1;have hb:=h3 b (by simp);have hn:b∉S2:=λhm=>(BA.1 h2).1 hm;have hg:∀i,i≠b->(w.h.set b o').get i=w.h.get i:=λi hi=>by rw[IH.nJ,if_neg hi]
 have hle:w.Le ⟨w.h.set b o',w.z,λi hi=>w.nL i hi⟩:=⟨bU _,λ_ h=>h,λi hi=>hg i (λe=>hb.2.2 (e▸hi))⟩
 refine⟨⟨h.agree.next,λi hi hB=>(hg i ?_).trans (h.agree.get i hi hB),λa c=>?_⟩,h.le.trans hle,h.gp,
  ⟨[b]++S2,⟨[b],S2,⟨rfl,by show(w.h.set b o').get b=_;rw[IH.nJ,if_pos rfl]⟩,eU.loc hle (λi hi=>hg i (λe=>hn (e▸hi))) q2,rfl⟩,h2,h3⟩,λf hf=>f.mono hle (h.facts f hf)⟩
 ·rcases hb.1 with q|q
  ·omega
  ·intro e;exact hB (e▸q)
 ·have hl:=h.agree.low a c;show(w.h.set b o').low=_;rw[IH.GG,hl];rcases hb.1 with q|q
  ·omega
  ·have:=c b q;omega
theorem St.move{b:Nat}{o o':dH}{h':IH}(h:St B w0 (pt b o::kl) F w)(m:Ae w.h h' b o'):∃w':Wd,w'.h=h'/\St B w0 (pt w.h.next o'::kl) F w'/\w.Le w':=by
 obtain⟨S,⟨S1,S2,⟨e1,q1⟩,q2,e⟩,h2,h3⟩:=h.own;subst e e1;have hb:=h3 b (by simp);have hn:b∉S2:=λhm=>(BA.1 h2).1 hm;let w':Wd:=⟨h',w.z,λi hi=>by rw[m.next];exact Km (w.nL i hi)⟩
 have hle:w.Le w':=⟨by show _<=h'.next;rw[m.next];exact Bu _,λ_ h=>h,λi hi=>m.get i (w.nL i hi) (λe=>hb.2.2 (e▸hi))⟩
 refine⟨w',rfl,⟨⟨by show _<=h'.next;rw[m.next];exact Nat.le_succ_of_le h.agree.next,λi hi hB=>(m.get i (mJ hi h.agree.next) ?_).trans (h.agree.get i hi hB),λa c=>?_⟩,h.le.trans hle,h.gp,
  ⟨[w.h.next]++S2,⟨[w.h.next],S2,⟨rfl,m.at_.2⟩,eU.loc hle (λi hi=>m.get i (h3 i (by simp[hi])).2.1 (λe=>hn (e▸hi))) q2,rfl⟩,?_,?_⟩,λf hf=>f.mono hle (h.facts f hf)⟩,hle⟩
 ·rcases hb.1 with q|q
  ·omega
  ·intro e;exact hB (e▸q)
 ·have hl:=h.agree.low a c;rw[<- hl];refine m.low ?_;rw[hl];rcases hb.1 with q|q
  ·omega
  ·exact c b q
 ·refine BA.2 ⟨λhm=>?_,(BA.1 h2).2⟩;have:=(h3 _ (dN _ hm)).2.1;omega
 ·intro i hi;have hnx:w'.h.next=w.h.next+1:=m.next
  rcases dB.1 hi with hi|hi
  ·rw[bM.1 hi];exact⟨.inl h.agree.next,by omega,λhz=>absurd (w.nL _ hz) (Nat.lt_irrefl _)⟩
  ·have:=h3 i (by simp[hi]);exact⟨this.1,by omega,this.2.2⟩
theorem St.EO{A A':OA}(hA:∀w S,A.p w S->A'.p w S)(h:St B w0 (A::kl) F w):St B w0 (A'::kl) F w:=by
 obtain⟨S,⟨S1,S2,q1,q2,e⟩,h2,h3⟩:=h.own;exact⟨h.agree,h.le,h.gp,⟨S,⟨S1,S2,hA w S1 q1,q2,e⟩,h2,h3⟩,h.facts⟩
theorem St.Ai{A A':OA}(h:St B w0 (A::kl) F w)(hA:∀S,A.p w S->A'.p w S):St B w0 (A'::kl) F w:=by
 obtain⟨S,⟨S1,S2,q1,q2,e⟩,h2,h3⟩:=h.own;exact⟨h.agree,h.le,h.gp,⟨S,⟨S1,S2,hA S1 q1,q2,e⟩,h2,h3⟩,h.facts⟩
theorem St.tail{A:OA}(h:St B w0 (A::kl) F w):St B w0 kl F w:=by
 obtain⟨S,⟨S1,S2,q1,q2,e⟩,h2,h3⟩:=h.own;subst e;exact⟨h.agree,h.le,h.gp,⟨S2,q2,(iq.1 h2).2.1,λi hi=>h3 i (qp _ hi)⟩,h.facts⟩
def rH(A:OA)(fs:List aL):Prop:=∀(w w':Wd) S,A.p w S->w.Le w'->w'.h=w.h->(∀i∈S,w'.z i)->∀f∈fs,f.p w'
theorem St.freeze{A:OA}{fs:List aL}(hA:rH A fs)(h:St B w0 (A::kl) F w):∃w',w'.h=w.h/\St B w0 kl (fs++F) w':=by
 obtain⟨S,⟨S1,S2,q1,q2,e⟩,h2,h3⟩:=h.own;subst e;let w':Wd:=⟨w.h,λi=>w.z i\/i∈S1,λi hi=>hi.elim (w.nL i) λhi=>(h3 i (kZ _ hi)).2.1⟩
 have hle:w.Le w':=⟨bU _,λi hi=>.inl hi,λ_ _=>rfl⟩
 have hnd:=iq.1 h2;refine⟨w',rfl,h.agree,h.le.trans hle,λi hi hz=>?_,⟨S2,eU.loc hle (λ_ _=>rfl) q2,hnd.2.1,λi hi=>?_⟩,λf hf=>?_⟩
 ·rcases hz with hz|hz
  ·exact h.gp i hi hz
  ·rcases(h3 i (kZ _ hz)).1 with q|q
   ·omega
   ·exact .inr q
 ·have:=h3 i (qp _ hi);refine⟨this.1,this.2.1,λhz=>hz.elim this.2.2 λhm=>?_⟩;exact hnd.2.2 i hm i hi rfl
 ·rcases dB.1 hf with hf|hf
  ·exact hA w w' S1 q1 hle rfl (λi hi=>.inr hi) f hf
  ·exact f.mono hle (h.facts f hf)
theorem fG{α:Type}{E:Enc α}{v:Value}{xs:List α}:rH (ap E v xs) [ah E v xs]:=by
 intro w w' S hp hle hh hz f hf;rw[bM.1 hf];rcases hp with⟨h1,h2,_⟩|⟨b,o,f,cells,h1,h2,h3,h4,h5,h6⟩
 ·exact .inl ⟨h1,none,0,h2,trivial⟩
 ·refine .inr ⟨b,o,f,_,cells,⟨h1,bU _,h2⟩,⟨hz b (by rw[h3];exact bM.2 rfl),.inl (by rw[hh];exact h4)⟩,λk x hk=>?_⟩;obtain⟨y,q1,q2⟩:=h6 k x hk;exact⟨y,q1,λf hf=>f.mono hle (q2 f hf)⟩
theorem eB{b:Nat}{cs:List Value}:rH (pt b (.cells cs)) [bZ b 0 cs]:=by
 intro w w' S ⟨h1,h2⟩ hle hh hz f hf;rw[bM.1 hf];exact⟨cs,⟨hz b (by rw[h1];exact bM.2 rfl),.inl (by rw[hh];exact h2)⟩,λj u hj=>by rw[fC];exact hj⟩
theorem yU{b f c:Nat}{xs:List Int}(hc:xs.length<=c:=by first|exact bU _|omega)(hf:f=0\/f=1:=by first|exact .inl rfl|exact .inr rfl):rH (pt b (.cells (xs.map (.int .i64)))) [ah aa (.slice (some ⟨b,0,some f⟩) xs.length c) xs]:=by
 intro w w' S ⟨h1,h2⟩ hle hh hz g hg;rw[bM.1 hg];refine .inr ⟨b,0,f,c,_,⟨rfl,hc,hf⟩,⟨hz b (by rw[h1];exact bM.2 rfl),.inl (by rw[hh];exact h2)⟩,λk x hk=>⟨(),λj u hj=>?_,λf hf=>by cases hf⟩⟩;match j,hj with
 |0,hj=>
  cases hj;simp[aa,hk]
theorem EP{b f c:Nat}{xs:List Bool}(hc:xs.length<=c:=by first|exact bU _|omega)(hf:f=0\/f=1:=by first|exact .inl rfl|exact .inr rfl):rH (pt b (.cells (xs.map .bool))) [ah lC (.slice (some ⟨b,0,some f⟩) xs.length c) xs]:=by
 intro w w' S ⟨h1,h2⟩ hle hh hz g hg;rw[bM.1 hg];refine .inr ⟨b,0,f,c,_,⟨rfl,hc,hf⟩,⟨hz b (by rw[h1];exact bM.2 rfl),.inl (by rw[hh];exact h2)⟩,λk x hk=>⟨(),λj u hj=>?_,λf hf=>by cases hf⟩⟩;match j,hj with
 |0,hj=>
  cases hj;simp[lC,hk]
end
end Go.Ideal
namespace Go.Ideal
variable {P:Program}
def R(Q:IH->Prop)(B:List Nat)(w0:Wd)(kl:List OA)(F:List aL):Prop:=∀w,St B w0 kl F w->Q w.h
structure dO(G G':Prop):Prop where
 h:G'->G
theorem dO.refl(G:Prop):dO G G:=⟨id⟩
theorem dO.trans{A B C:Prop}(a:dO A B)(b:dO B C):dO A C:=⟨λc=>a.h (b.h c)⟩
theorem dO.all{X:Type}{A B:X->Prop}(h:∀x,dO (A x) (B x)):dO (∀x,A x) (∀x,B x):=⟨λb x=>(h x).h (b x)⟩
theorem dO.imp{p A B:Prop}(h:dO A B):dO (p->A) (p->B):=⟨λb x=>h.h (b x)⟩
def Pu(P:Program)(ρ:Operand->Value)(op:aG)(v:Value):Prop:=∀h,op.run P ρ h=some (v,h)
inductive EvL(ρ:Operand->Value):List Operand->List Value->Prop
 |nil:EvL ρ [] []
 |cons {x:Operand} {v:Value} {xs:List Operand} {vs:List Value} (h:ρ x=v) (t:EvL ρ xs vs):EvL ρ (x::xs) (v::vs)
theorem EvL.map{ρ:Operand->Value}:∀{xs:List Operand} {vs:List Value},EvL ρ xs vs->xs.map ρ=vs
 |_,_,.nil=>rfl
 |_,_,.cons h t=>by rw[ik,h,t.map]
section
variable {ρ:Operand->Value}
theorem Hu{x:Operand}{v:Value}(hx:ρ x=v):Pu P ρ (.mv x) v:=λh=>by simp only[aG.run,hx]
theorem Hw{x:Operand}{v:Value}(hx:ρ x=v):Pu P ρ (.nD x) v:=λh=>by simp only[aG.run,hx]
theorem Hy{c x y:Operand}{v:Value}(hc:ρ c=.bool true)(hx:ρ x=v):Pu P ρ (.pick c x y) v:=λh=>by simp only[aG.run,hc,hx,cond]
theorem Hz{c x y:Operand}{v:Value}(hc:ρ c=.bool false)(hx:ρ y=v):Pu P ρ (.pick c x y) v:=λh=>by simp only[aG.run,hc,hx,cond]
theorem HV{x:Operand}{b:Bool}(hx:ρ x=.bool b):Pu P ρ (.un .not x) (.bool !b):=λh=>by simp only[aG.run,hx];rfl
theorem HY{x:Operand}{a:Option Addr}{m c:Nat}(hx:ρ x=.slice a m c):Pu P ρ (.wE x) (.int .i64 (m:Int)):=λh=>by simp only[aG.run,hx,Rv]
theorem HZ{n:Nat}:Pu P ρ (.Gu n) (.int .i64 (n:Int)):=λh=>rfl
theorem H6{x y:Operand}{t:TypeId}{a b:Int}(hx:ρ x=.int .i64 a)(hy:ρ y=.int .i64 b):Pu P ρ (.bin .lss t x y) (.bool (decide (a<b))):=λh=>by
 simp only[aG.run,hx,hy];rw[yR (v:=.bool (decide (a<b)))];simp[pJ,sN,<- Int.not_le]
theorem H7{x y:Operand}{t:TypeId}{a b:Int}(hx:ρ x=.int .i64 a)(hy:ρ y=.int .i64 b):Pu P ρ (.bin .leq t x y) (.bool (decide (a<=b))):=λh=>by
 simp only[aG.run,hx,hy];rw[yR (v:=.bool (decide (a<=b)))];simp[pJ,sN]
theorem H8{x y:Operand}{t:TypeId}{a b:Int}(hx:ρ x=.int .i64 a)(hy:ρ y=.int .i64 b):Pu P ρ (.bin .gtr t x y) (.bool (decide (b<a))):=λh=>by
 simp only[aG.run,hx,hy];rw[yR (v:=.bool (decide (b<a)))];simp[pJ,sN,<- Int.not_le]
theorem H9{x y:Operand}{t:TypeId}{a b:Int}(hx:ρ x=.int .i64 a)(hy:ρ y=.int .i64 b):Pu P ρ (.bin .geq t x y) (.bool (decide (b<=a))):=λh=>by
 simp only[aG.run,hx,hy];rw[yR (v:=.bool (decide (b<=a)))];simp[pJ,sN]
theorem Ia{x y:Operand}{t:TypeId}{a b:Int}(hx:ρ x=.int .i64 a)(hy:ρ y=.int .i64 b):Pu P ρ (.bin .eql t x y) (.bool (decide (a=b))):=λh=>by
 simp only[aG.run,hx,hy];rw[yR (v:=.bool (decide (a=b)))];simp[pJ,Eg];rfl
theorem Ib{x y:Operand}{t:TypeId}{a b:Int}(hx:ρ x=.int .i64 a)(hy:ρ y=.int .i64 b):Pu P ρ (.bin .neq t x y) (.bool (decide (a≠b))):=λh=>by
 simp only[aG.run,hx,hy];rw[yR (v:=.bool (decide (a≠b)))];simp[pJ,Eg];rfl
theorem Co{x y:Operand}{t:TypeId}{a b:Int}(hx:ρ x=.int .i64 a)(hy:ρ y=.int .i64 b)(h1: -9223372036854775808<=a+b)(h2:a+b<9223372036854775808):Pu P ρ (.bin .add t x y) (.int .i64 (a+b)):=λh=>by
 simp only[aG.run,hx,hy];rw[yR (v:=.int .i64 (a+b))];simp only[pJ,Ql,Rx h1 h2]
theorem Ic{x y:Operand}{t:TypeId}{a b:Int}(hx:ρ x=.int .i64 a)(hy:ρ y=.int .i64 b)(h1: -9223372036854775808<=a - b)(h2:a - b<9223372036854775808):Pu P ρ (.bin .sub t x y) (.int .i64 (a - b)):=λh=>by
 simp only[aG.run,hx,hy];rw[yR (v:=.int .i64 (a - b))];simp only[pJ,Qm,Rx h1 h2]
theorem Ie{x:Operand}{i:Nat}{vs:List Value}{v:Value}(hx:ρ x=.tuple ⟨vs⟩)(hv:jX vs i=some v):Pu P ρ (.extract x i) v:=λh=>by simp only[aG.run,hx,hv]
theorem Ig{x:Operand}{off b o:Nat}(hx:ρ x=.pointer (some ⟨b,o,none⟩)):Pu P ρ (.fP off x) (.pointer (some ⟨b,o+off,none⟩)):=λh=>by simp only[aG.run,hx];rfl
theorem Ih{t:TypeId}{off n:Nat}{x:Operand}{cs:List Value}{v:Value}(hx:ρ x=.agg ⟨cs⟩)(hv:jX cs off=some v):Pu P ρ (.field t off n false x) v:=λh=>by simp only[aG.run,hx,hv]
theorem Ii{t:TypeId}{off n:Nat}{x:Operand}{cs r:List Value}(hx:ρ x=.agg ⟨cs⟩)(hv:jv (jR cs off) n=some r):Pu P ρ (.field t off n true x) (.agg ⟨r⟩):=λh=>by simp only[aG.run,hx,hv]
theorem Ij{x:Operand}{t:TypeId}{v:Value}(hx:ρ x=v):Pu P ρ (.iface t x) (.iface t v):=λh=>by simp only[aG.run,hx]
theorem Ik{t:TypeId}{zero v:Value}{x:Operand}(hx:ρ x=.iface t v):Pu P ρ (.Gs t zero false x) v:=λh=>by
 simp only[aG.run,hx];show cond (Nat.beq t t) _ _=_;rw[Gh];rfl
theorem aaU{zero cs:List Value}{parts:List (Nat×Nat×Operand)}(hx:ry ρ zero parts=some cs):Pu P ρ (.build zero parts) (.agg ⟨cs⟩):=λh=>by simp only[aG.run,hx]
theorem Il{x:Operand}{a:Addr}(hx:ρ x=.pointer (some a)):Pu P ρ (.lc x) (.pointer (some a)):=λh=>by simp only[aG.run,hx]
theorem Im{x:Operand}{f:FuncId}{a b:Array Value}(hx:ρ x=.func (.func f) a b):Pu P ρ (.lc x) (.func (.func f) a b):=λh=>by simp only[aG.run,hx]
theorem aaV{fn:Fn}{first captured:List Operand}{a b:List Value}(h1:EvL ρ first a)(h2:EvL ρ captured b):Pu P ρ (.BH fn first captured) (.func fn ⟨a⟩ ⟨b⟩):=λh=>by
 simp only[aG.run,vF,h1.map,h2.map]
theorem EQ{x i:Operand}{size b o m c:Nat}{f:Option Nat}{k:Int}{kk:IntKind}(hx:ρ x=.slice (some ⟨b,o,f⟩) m c)(hi:ρ i=.int kk k)(h0:0<=k)(h1:k<m):
 Pu P ρ (.nT size x i) (.pointer (some ⟨b,o+k.toNat*size,none⟩)):=λh=>by
 obtain⟨j,rfl⟩:=dZ h0;simp only[aG.run,hx,hi];show cond (Nat.blt j m) _ _=_;rw[Mi (by omega)];rfl
theorem Io{x i:Operand}{size b o m c k:Nat}{f:Option Nat}{kk:IntKind}(hx:ρ x=.slice (some ⟨b,o,f⟩) m c)(hi:ρ i=.int kk (.ofNat k))(h1:Nat.blt k m=true):
 Pu P ρ (.nT size x i) (.pointer (some ⟨b,o+k*size,none⟩)):=λh=>by
 simp only[aG.run,hx,hi,h1];rfl
theorem Ip{x i:Operand}{m size b o:Nat}{k:Int}{kk:IntKind}(hx:ρ x=.pointer (some ⟨b,o,none⟩))(hi:ρ i=.int kk k)(h0:0<=k)(h1:k<m):
 Pu P ρ (.Ky m size x i) (.pointer (some ⟨b,o+k.toNat*size,none⟩)):=λh=>by
 obtain⟨j,rfl⟩:=dZ h0;simp only[aG.run,hx,hi];show cond (Nat.blt j m) _ _=_;rw[Mi (by omega)];rfl
end
section
variable {B:List Nat} {w0:Wd} {kl kl':List OA} {F:List aL} {a:aX} {K:KO}
theorem aaW{x y:dm}:dO (R (λh=>EV P (.seq x y) a h K) B w0 kl F) (R (λh=>EV P x a h (yQ P y K)) B w0 kl F):=⟨λr w s=>aar (r w s)⟩
theorem aaX{id:Nat}{c:dm}:dO (R (λh=>EV P (.block id c) a h K) B w0 kl F) (R (λh=>EV P c a h (wW id K)) B w0 kl F):=⟨λr w s=>aas (r w s)⟩
theorem aaY{ds:List Tmp}{l:List bT}:dO (R (λh=>EV P (.ops ds l) a h K) B w0 kl F) (R (λh=>aK P ds l a h K) B w0 kl F):=⟨λr w s=>.ops (r w s)⟩
theorem aaZ{c:dm}:dO (R (λh=>EV P (.scope c) a h K) B w0 kl F) (R (λh=>EV P c a h K) B w0 kl F):=⟨λr w s=>.scope (r w s)⟩
theorem aa0:dO (R (λh=>EV P .skip a h K) B w0 kl F) (R (λh=>K .normal a h) B w0 kl F):=⟨λr w s=>.skip (r w s)⟩
theorem aa1{id:Nat}:dO (R (λh=>EV P (.exit id) a h K) B w0 kl F) (R (λh=>K (.exit id) a h) B w0 kl F):=⟨λr w s=>.exit (r w s)⟩
theorem aa2:dO (R (λh=>EV P .ret a h K) B w0 kl F) (R (λh=>K .ret a h) B w0 kl F):=⟨λr w s=>.ret (r w s)⟩
theorem aa3{ds:List Tmp}:dO (R (λh=>aK P ds [] a h K) B w0 kl F) (R (λh=>K .normal a h) B w0 kl F):=⟨λr w s=>.nil (r w s)⟩
variable {y:dm} {i j m0:Nat} {I:Nat->aX->IH->Prop} {ch:List PanicEntry}
theorem aa4:dO (R (λh=>yQ P y K .normal a h) B w0 kl F) (R (λh=>EV P y a h K) B w0 kl F):=⟨λr w s=>r w s⟩
theorem aa5:dO (R (λh=>yQ P y K .ret a h) B w0 kl F) (R (λh=>K .ret a h) B w0 kl F):=⟨λr w s=>r w s⟩
theorem aa6:dO (R (λh=>yQ P y K (.exit j) a h) B w0 kl F) (R (λh=>K (.exit j) a h) B w0 kl F):=⟨λr w s=>r w s⟩
theorem aa7:dO (R (λh=>yQ P y K (.panic ch) a h) B w0 kl F) (R (λh=>K (.panic ch) a h) B w0 kl F):=⟨λr w s=>r w s⟩
theorem aa8:dO (R (λh=>wW i K .normal a h) B w0 kl F) (R (λh=>K .normal a h) B w0 kl F):=⟨λr w s=>r w s⟩
theorem aa9:dO (R (λh=>wW i K .ret a h) B w0 kl F) (R (λh=>K .ret a h) B w0 kl F):=⟨λr w s=>r w s⟩
theorem aba:dO (R (λh=>wW i K (.panic ch) a h) B w0 kl F) (R (λh=>K (.panic ch) a h) B w0 kl F):=⟨λr w s=>r w s⟩
theorem abb(e:Nat.beq j i=true):dO (R (λh=>wW i K (.exit j) a h) B w0 kl F) (R (λh=>K .normal a h) B w0 kl F):=⟨λr w s=>aaz e (r w s)⟩
theorem abd(e:Nat.beq j i=false):dO (R (λh=>wW i K (.exit j) a h) B w0 kl F) (R (λh=>K (.exit j) a h) B w0 kl F):=⟨λr w s=>aaA e (r w s)⟩
theorem abe:dO (R (λh=>uK I m0 K .ret a h) B w0 kl F) (R (λh=>K .ret a h) B w0 kl F):=⟨λr w s=>r w s⟩
theorem abf:dO (R (λh=>uK I m0 K (.exit j) a h) B w0 kl F) (R (λh=>K (.exit j) a h) B w0 kl F):=⟨λr w s=>r w s⟩
theorem abg:dO (R (λh=>uK I m0 K (.panic ch) a h) B w0 kl F) (R (λh=>K (.panic ch) a h) B w0 kl F):=⟨λr w s=>r w s⟩
end
section
variable {B:List Nat} {w0:Wd} {kl kl':List OA} {F:List aL} {K:KO} {ds:List Tmp} {rest:List bT} {n:Nat} {l:List (Nat×Value)} {D:List Deferred} {pm:Option FrameMode} {ro:Option Nat} {d:Nat} {g:Option (Tmp×Bool)}
theorem abh{c:Operand}{x y:dm}(hc:ev l c=.bool true):dO (R (λh=>EV P (.cond c x y) (act n l D pm ro) h K) B w0 kl F) (R (λh=>EV P x (act n l D pm ro) h K) B w0 kl F):=
 ⟨λr w s=>EI true hc (λ_=>r w s) (λe=>by cases e)⟩
theorem abj{c:Operand}{x y:dm}(hc:ev l c=.bool false):dO (R (λh=>EV P (.cond c x y) (act n l D pm ro) h K) B w0 kl F) (R (λh=>EV P y (act n l D pm ro) h K) B w0 kl F):=
 ⟨λr w s=>EI false hc (λe=>by cases e) (λ_=>r w s)⟩
theorem ay{c:Operand}{x y:dm}{p:Prop}[Decidable p](hc:ev l c=.bool (decide p))(h1:p->R (λh=>EV P x (act n l D pm ro) h K) B w0 kl F)(h2:¬p->R (λh=>EV P y (act n l D pm ro) h K) B w0 kl F):
 R (λh=>EV P (.cond c x y) (act n l D pm ro) h K) B w0 kl F:=
 λw s=>EI _ hc (λe=>h1 (iw e) w s) (λe=>h2 (mK e) w s)
theorem eX{c:Operand}{x y:dm}{p:Prop}[Decidable p](hc:ev l c=.bool (!decide p))(h1:¬p->R (λh=>EV P x (act n l D pm ro) h K) B w0 kl F)(h2:p->R (λh=>EV P y (act n l D pm ro) h K) B w0 kl F):
 R (λh=>EV P (.cond c x y) (act n l D pm ro) h K) B w0 kl F:=
 λw s=>EI _ hc (λe=>h1 (by simpa using e) w s) (λe=>h2 (by simpa using e) w s)
theorem iZ{c:Operand}{x y:dm}{b:Bool}(hc:ev l c=.bool b)(h1:b=true->R (λh=>EV P x (act n l D pm ro) h K) B w0 kl F)(h2:b=false->R (λh=>EV P y (act n l D pm ro) h K) B w0 kl F):
 R (λh=>EV P (.cond c x y) (act n l D pm ro) h K) B w0 kl F:=
 λw s=>EI _ hc (λe=>h1 e w s) (λe=>h2 e w s)
theorem abk{op:aG}{re:List iD}(hn:Nat.blt d n=true)(hg:Mg l g=true):dO (R (λh=>aK P ds (⟨⟨some d,g,op⟩,re⟩::rest) (act n l D pm ro) h K) B w0 kl F) (R (λh=>aK P ds rest (act n ((d,sw)::l) D pm ro) h K) B w0 kl F):=
 ⟨λr w s=>aax hn hg (r w s)⟩
theorem gH{op:aG}{v:Value}(hn:Nat.blt d n=true)(hg:bW l g=true)(hp:Pu P (ev l) op v):dO (R (λh=>aK P ds (⟨⟨some d,g,op⟩,[]⟩::rest) (act n l D pm ro) h K) B w0 kl F) (R (λh=>aK P ds rest (act n ((d,v)::l) D pm ro) h K) B w0 kl F):=
 ⟨λr w s=>lT hn hg (hp w.h) (r w s)⟩
abbrev ptr'(b:Nat):Value:=.pointer (some ⟨b,0,none⟩)
theorem abl{cs:List Value}{t:TypeId}(hn:Nat.blt d n=true)(hg:bW l g=true):dO (R (λh=>aK P ds (⟨⟨some d,g,.new cs t⟩,[]⟩::rest) (act n l D pm ro) h K) B w0 kl F)
 (∀b,R (λh=>aK P ds rest (act n ((d,.pointer (some ⟨b,0,none⟩))::l) D pm ro) h K) B w0 (pt b (.cells cs)::kl) F):=
 ⟨λr w s=>lT hn hg (h':=w.h.new (.cells cs)) (by simp only[aG.run,aG.alloc,rz]) (r w.h.next (w.new _) (s.new _))⟩
theorem abm{x:Operand}{t:TypeId}{cs:List Value}(hn:Nat.blt d n=true)(hg:bW l g=true)(hx:cellsOf (ev l x)=some cs):dO (R (λh=>aK P ds (⟨⟨some d,g,.box x t⟩,[]⟩::rest) (act n l D pm ro) h K) B w0 kl F)
 (∀b,R (λh=>aK P ds rest (act n ((d,.pointer (some ⟨b,0,none⟩))::l) D pm ro) h K) B w0 (pt b (.cells cs)::kl) F):=
 ⟨λr w s=>lT hn hg (h':=w.h.new (.cells cs)) (by simp only[aG.run,aG.alloc,rz,hx]) (r w.h.next (w.new _) (s.new _))⟩
theorem abn{t:TypeId}{len:Nat}{zero cs:List Value}{parts:List (Nat×Nat×Operand)}(hn:Nat.blt d n=true)(hg:bW l g=true)(hx:ry (ev l) zero parts=some cs):
 dO (R (λh=>aK P ds (⟨⟨some d,g,.wC t len zero parts⟩,[]⟩::rest) (act n l D pm ro) h K) B w0 kl F)
 (∀b,R (λh=>aK P ds rest (act n ((d,.slice (some ⟨b,0,some 0⟩) len len)::l) D pm ro) h K) B w0 (pt b (.cells cs)::kl) F):=
 ⟨λr w s=>lT hn hg (h':=w.h.new (.cells cs)) (by simp only[aG.run,aG.alloc,rz,hx,wF]) (r w.h.next (w.new _) (s.new _))⟩
theorem abo{e:TypeId}{size bytes m:Nat}{zero:List Value}{x y:Operand}(hn:Nat.blt d n=true)(hg:bW l g=true)(hx:ev l x=.int .i64 (m:Int))(hy:ev l y=.int .i64 (m:Int))
 (hm:m*bytes<=1073741824/\m*size<=1073741824/\m<=1073741824):dO (R (λh=>aK P ds (⟨⟨some d,g,.zI e size bytes zero x y⟩,[]⟩::rest) (act n l D pm ro) h K) B w0 kl F)
 (∀b,R (λh=>aK P ds rest (act n ((d,.slice (some ⟨b,0,some 0⟩) m m)::l) D pm ro) h K) B w0 (pt b (.cells (zeros zero m))::kl) F):=by
 refine⟨λr w s=>?_⟩;have hle:∀{a b:Nat},a<=b->Nat.ble a b=true:=λh=>by rw[tZ];exact h
 refine lT hn hg (h':=w.h.new (.cells (zeros zero m))) ?_ (r w.h.next (w.new _) (s.new _));simp only[aG.run,aG.alloc,hx,hy];show rz (cond (Nat.ble m m&&Nat.ble (m*bytes) small&&Nat.ble (m*size) small&&Nat.ble m small) _ _) w.h=_;rw[hle (bU m),hle (show m*bytes<=small from hm.1),hle (show m*size<=small from hm.2.1),hle (show m<=small from hm.2.2)];rfl
theorem abp{x:Operand}{b o:Nat}{cs:List Value}{v:Value}(hn:Nat.blt d n=true)(hg:bW l g=true)(hx:ev l x=.pointer (some ⟨b,o,none⟩))(hk:aA (pt b (.cells cs)) kl kl')(hv:jX cs o=some v):
 dO (R (λh=>aK P ds (⟨⟨some d,g,.gT x⟩,[]⟩::rest) (act n l D pm ro) h K) B w0 kl F) (R (λh=>aK P ds rest (act n ((d,v)::l) D pm ro) h K) B w0 kl F):=
 ⟨λr w s=>Ho hn hg hx (s.at_ hk) (by rw[<- sI];exact hv) (r w s)⟩
theorem abq{x:Operand}{b o m:Nat}{cs c:List Value}(hn:Nat.blt d n=true)(hg:bW l g=true)(hx:ev l x=.pointer (some ⟨b,o,none⟩))(hk:aA (pt b (.cells cs)) kl kl')(hv:jv (jR cs o) m=some c):
 dO (R (λh=>aK P ds (⟨⟨some d,g,.qw m x⟩,[]⟩::rest) (act n l D pm ro) h K) B w0 kl F) (R (λh=>aK P ds rest (act n ((d,.agg ⟨c⟩)::l) D pm ro) h K) B w0 kl F):=
 ⟨λr w s=>aay hn hg hx (s.at_ hk) hv (r w s)⟩
theorem Iq{w:Wd}{b o j:Nat}{cs:List Value}{v:Value}(h:(bZ b o cs).p w)(hv:jX cs j=some v):w.h.oD b (o+j)=some v:=by
 obtain⟨cells,h1,h2⟩:=h;rw[h1.cells.oD];exact h2 j v (by rw[<- sI];exact hv)
theorem Ir{w:Wd}{b o j m:Nat}{cs c:List Value}(h:(bZ b o cs).p w)(hv:jv (jR cs j) m=some c):w.h.je b (o+j) m=some c:=by
 obtain⟨cells,h1,h2⟩:=h;rw[h1.cells.je];rw[sJ,rD]at hv⊢;split at hv
 ·rename_i hm;cases hv;rw[ww]at hm;have key:∀i,i<m->cells[o+j+i]? =cs[j+i]?:=λi hi=>by
   have hlt:j+i<cs.length:=by omega
   rw[qm,bN hlt];exact h2 (j+i) _ (bN hlt)
  have hlen:m=0\/o+j+m<=cells.length:=by
   rcases Kg m with e|e
   ·exact .inl e
   ·right;have:=key (m - 1) (by omega);rw[bN (show j+(m - 1)<cs.length by omega)]at this;have:=(bK.1 this).1;omega
  rw[if_pos (by rw[ww];omega)];congr 1;apply kP;intro i;rw[vw,vw];by_cases hi:i<m
  ·rw[if_pos hi,if_pos hi,qX,qX];exact key i hi
  ·rw[if_neg hi,if_neg hi]
 ·cases hv
theorem abr{x:Operand}{b o:Nat}{cs:List Value}{v:Value}(hn:Nat.blt d n=true)(hg:bW l g=true)(hx:ev l x=.pointer (some ⟨b,o,none⟩))(hk:bZ b o cs∈F)(hv:jX cs 0=some v):
 dO (R (λh=>aK P ds (⟨⟨some d,g,.gT x⟩,[]⟩::rest) (act n l D pm ro) h K) B w0 kl F) (R (λh=>aK P ds rest (act n ((d,v)::l) D pm ro) h K) B w0 kl F):=
 ⟨λr w s=>lT hn hg (by simp only[aG.run,hx,show w.h.oD b o=some v from Iq (j:=0) (s.facts _ hk) hv]) (r w s)⟩
theorem abt{x:Operand}{b o j:Nat}{cs:List Value}{v:Value}(hn:Nat.blt d n=true)(hg:bW l g=true)(hx:ev l x=.pointer (some ⟨b,o+j,none⟩))(hk:bZ b o cs∈F)(hv:jX cs j=some v):
 dO (R (λh=>aK P ds (⟨⟨some d,g,.gT x⟩,[]⟩::rest) (act n l D pm ro) h K) B w0 kl F) (R (λh=>aK P ds rest (act n ((d,v)::l) D pm ro) h K) B w0 kl F):=
 ⟨λr w s=>lT hn hg (by simp only[aG.run,hx,Iq (s.facts _ hk) hv]) (r w s)⟩
theorem abu{x:Operand}{b o m:Nat}{cs c:List Value}(hn:Nat.blt d n=true)(hg:bW l g=true)(hx:ev l x=.pointer (some ⟨b,o,none⟩))(hk:bZ b o cs∈F)(hv:jv cs m=some c):
 dO (R (λh=>aK P ds (⟨⟨some d,g,.qw m x⟩,[]⟩::rest) (act n l D pm ro) h K) B w0 kl F) (R (λh=>aK P ds rest (act n ((d,.agg ⟨c⟩)::l) D pm ro) h K) B w0 kl F):=
 ⟨λr w s=>lT hn hg (by simp only[aG.run,hx,show w.h.je b o m=some c from Ir (j:=0) (s.facts _ hk) (by rw[rD];exact hv)]) (r w s)⟩
theorem RY{x:Operand}{b o j m:Nat}{cs c:List Value}(hn:Nat.blt d n=true)(hg:bW l g=true)(hx:ev l x=.pointer (some ⟨b,o+j,none⟩))(hk:bZ b o cs∈F)(hv:jv (jR cs j) m=some c):
 dO (R (λh=>aK P ds (⟨⟨some d,g,.qw m x⟩,[]⟩::rest) (act n l D pm ro) h K) B w0 kl F) (R (λh=>aK P ds rest (act n ((d,.agg ⟨c⟩)::l) D pm ro) h K) B w0 kl F):=
 ⟨λr w s=>lT hn hg (by simp only[aG.run,hx,Ir (s.facts _ hk) hv]) (r w s)⟩
theorem abv{x y:Operand}{b o m:Nat}{cs vs c:List Value}(hg:bW l g=true)(hx:ev l x=.pointer (some ⟨b,o,none⟩))(hy:cellsOf (ev l y)=some vs)(hm:Nat.beq (iM vs) m=true)
 (hk:aA (pt b (.cells cs)) kl kl') (hv:jY cs o vs=some c):
 dO (R (λh=>aK P ds (⟨⟨none,g,.store m x y⟩,[]⟩::rest) (act n l D pm ro) h K) B w0 kl F) (R (λh=>aK P ds rest (act n l D pm ro) h K) B w0 (pt b (.cells c)::kl') F):=
 ⟨λr w s=>Mh hg (v:=dR) (h':=w.h.set b (.cells c)) (by simp only[aG.run,hx,hy,hm];simp only[IH.storeAt,(s.at_ hk).2,hv];rfl) (r _ ((s.fZ hk).write))⟩
theorem abw{x y:Operand}{b o:Nat}{cs:List Value}{v:Value}(hg:bW l g=true)(hx:ev l x=.pointer (some ⟨b,o,none⟩))(hy:ev l y=v)(hv:cellsOf v=some [v])
 (hk:aA (pt b (.cells cs)) kl kl') (ho:o<cs.length):
 dO (R (λh=>aK P ds (⟨⟨none,g,.store 1 x y⟩,[]⟩::rest) (act n l D pm ro) h K) B w0 kl F) (R (λh=>aK P ds rest (act n l D pm ro) h K) B w0 (pt b (.cells (cs.set o v))::kl') F):=
 ⟨λr w s=>Mh hg (v:=dR) (h':=w.h.set b (.cells (cs.set o v))) (by
  simp only[aG.run,hx,hy,hv];show cond (Nat.beq 1 1) _ _=_;simp only[IH.storeAt,(s.at_ hk).2,Ry cs o v ho];rfl) (r _ ((s.fZ hk).write))⟩
theorem abx{x:Operand}{b o:Nat}{cs:List Value}{v:Value}(hn:Nat.blt d n=true)(hg:bW l g=true)(hx:ev l x=.pointer (some ⟨b,o,none⟩))(hk:aA (pt b (.cells cs)) kl kl')(hv:cs[o]? =some v):
 dO (R (λh=>aK P ds (⟨⟨some d,g,.gT x⟩,[]⟩::rest) (act n l D pm ro) h K) B w0 kl F) (R (λh=>aK P ds rest (act n ((d,v)::l) D pm ro) h K) B w0 kl F):=
 ⟨λr w s=>Ho hn hg hx (s.at_ hk) hv (r w s)⟩
theorem RZ{α:Type}{E:Enc α}{v:Value}{xs:List α}{w:Wd}(h:(ah E v xs).p w):∃a c,v=.slice a xs.length c:=by
 rcases h with⟨rfl,a,c,rfl,_⟩|⟨i,o,f,c,cs,⟨h1,_⟩,_⟩
 ·exact⟨a,c,rfl⟩
 ·exact⟨_,c,h1⟩
theorem aby{α:Type}{E:Enc α}{v:Value}{xs:List α}{w:Wd}(h:(ah E v xs).p w){k:Nat}(hk:k<xs.length):
 ∃i o f c x y,v=.slice (some ⟨i,o,f⟩) xs.length c/\xs[k]? =some x/\(bZ i (o+k*E.n) (E.pat x y)).p w/\∀f∈E.fs x y,f.p w:=by
 rcases h with⟨rfl,a,c,rfl,_⟩|⟨i,o,f,c,cs,⟨h1,_⟩,h2,h3⟩
 ·simp at hk
 ·obtain⟨y,q1,q2⟩:=h3 k xs[k] (bN hk);exact⟨i,o,some f,c,xs[k],y,h1,bN hk,⟨cs,h2,q1⟩,q2⟩
theorem abz{α:Type}{E:Enc α}{x:Operand}{v:Value}{xs:List α}(hn:Nat.blt d n=true)(hg:bW l g=true)(hx:ev l x=v)(hf:ah E v xs∈F):
 dO (R (λh=>aK P ds (⟨⟨some d,g,.wE x⟩,[]⟩::rest) (act n l D pm ro) h K) B w0 kl F) (R (λh=>aK P ds rest (act n ((d,.int .i64 (xs.length:Int))::l) D pm ro) h K) B w0 kl F):=
 ⟨λr w s=>by
  obtain⟨a,c,e⟩:=RZ (s.facts _ hf);exact Rw hn hg (hx.trans e) (r w s)⟩
theorem Mw{α:Type}{E:Enc α}{v:Value}{xs:List α}{w:Wd}{S:List Nat}(h:(ap E v xs).p w S):∃a,v=.slice a xs.length xs.length:=by
 rcases h with⟨rfl,rfl,_⟩|⟨b,o,f,cells,h1,_⟩
 ·exact⟨none,rfl⟩
 ·exact⟨_,h1⟩
theorem abA{α:Type}{E:Enc α}{x:Operand}{v:Value}{xs:List α}(hn:Nat.blt d n=true)(hg:bW l g=true)(hx:ev l x=v)(hk:aA (ap E v xs) kl kl'):
 dO (R (λh=>aK P ds (⟨⟨some d,g,.wE x⟩,[]⟩::rest) (act n l D pm ro) h K) B w0 kl F) (R (λh=>aK P ds rest (act n ((d,.int .i64 (xs.length:Int))::l) D pm ro) h K) B w0 kl F):=
 ⟨λr w s=>by
  obtain⟨S,⟨S1,S2,q,_⟩,_⟩:=(s.fZ hk).own;obtain⟨a,e⟩:=Mw q;exact Rw hn hg (hx.trans e) (r w s)⟩
theorem Mx{α:Type}{E:Enc α}{x i:Operand}{v:Value}{xs:List α}{size:Nat}{k:Int}{kk:IntKind}(hn:Nat.blt d n=true)(hg:bW l g=true)(hx:ev l x=v)(hi:ev l i=.int kk k)(hf:ah E v xs∈F)
 (hs:E.n=size) (h0:0<=k) (h1:k<xs.length):
 dO (R (λh=>aK P ds (⟨⟨some d,g,.nT size x i⟩,[]⟩::rest) (act n l D pm ro) h K) B w0 kl F)
  (∀b o z y,xs[k.toNat]? =some z->R (λh=>aK P ds rest (act n ((d,.pointer (some ⟨b,o,none⟩))::l) D pm ro) h K) B w0 kl (bZ b o (E.pat z y)::(E.fs z y++F))):=by
 refine⟨λr w s=>?_⟩;obtain⟨b,o,f,c,z,y,rfl,h2,h3,h4⟩:=aby (s.facts _ hf) (k:=k.toNat) (by omega);refine Mj hn hg hx hi h0 h1 (r b _ z y h2 w ?_);rw[<- hs];exact(s.add (F':=bZ b (o+k.toNat*E.n) (E.pat z y)::E.fs z y) (λf hf=>by
  rcases dG.1 hf with rfl|hf
  ·exact h3
  ·exact h4 f hf))
theorem R3{x i:Operand}{v:Value}{xs:List Int}{k:Int}{kk:IntKind}(hn:Nat.blt d n=true)(hg:bW l g=true)(hx:ev l x=v)(hi:ev l i=.int kk k)(hf:ah aa v xs∈F)(h0:0<=k)(h1:k<xs.length):
 dO (R (λh=>aK P ds (⟨⟨some d,g,.nT 1 x i⟩,[]⟩::rest) (act n l D pm ro) h K) B w0 kl F)
  (∀b o z,xs[k.toNat]? =some z->R (λh=>aK P ds rest (act n ((d,.pointer (some ⟨b,o,none⟩))::l) D pm ro) h K) B w0 kl (bZ b o [.int .i64 z]::F)):=
 ⟨λr=>(Mx hn hg hx hi hf rfl h0 h1).h λb o z y hz=>r b o z hz⟩
theorem R4{x i:Operand}{v:Value}{xs:List Bool}{k:Int}{kk:IntKind}(hn:Nat.blt d n=true)(hg:bW l g=true)(hx:ev l x=v)(hi:ev l i=.int kk k)(hf:ah lC v xs∈F)(h0:0<=k)(h1:k<xs.length):
 dO (R (λh=>aK P ds (⟨⟨some d,g,.nT 1 x i⟩,[]⟩::rest) (act n l D pm ro) h K) B w0 kl F)
  (∀b o z,xs[k.toNat]? =some z->R (λh=>aK P ds rest (act n ((d,.pointer (some ⟨b,o,none⟩))::l) D pm ro) h K) B w0 kl (bZ b o [.bool z]::F)):=
 ⟨λr=>(Mx hn hg hx hi hf rfl h0 h1).h λb o z y hz=>r b o z hz⟩
theorem fJ{α:Type}(E:Enc α){Q:IH->Prop}(h:R Q B w0 (ap E (.slice none 0 0) []::kl) F):R Q B w0 kl F:=λw s=>by
 obtain⟨S,h1,h2,h3⟩:=s.own;exact h w ⟨s.agree,s.le,s.gp,⟨S,⟨[],S,.inl ⟨rfl,rfl,rfl⟩,h1,rfl⟩,h2,h3⟩,s.facts⟩
theorem abB{A:OA}{fs:List aL}{Q:IH->Prop}(hA:rH A fs)(hk:aA A kl kl')(h:R Q B w0 kl' (fs++F)):R Q B w0 kl F:=λw s=>by
 obtain⟨w',e,s'⟩:=(s.fZ hk).freeze hA;rw[<- e];exact h w' s'
theorem _root_.Go.Ideal.St.fresh{w:Wd}{o:dH}{h':IH}(s:St B w0 kl F w)(ag:Agree w.h h')(at_:At h' w.h.next o)(hn:h'.next=w.h.next+1):∃w':Wd,w'.h=h'/\St B w0 (pt w.h.next o::kl) F w':=by
 have hg:∀i,i<w.h.next->h'.get i=w.h.get i:=ag.get
 let w':Wd:=⟨h',w.z,λi hi=>by rw[hn];exact Km (w.nL i hi)⟩
 have hle:w.Le w':=⟨by show _<=h'.next;omega,λ_ h=>h,λi hi=>hg i (w.nL i hi)⟩
 obtain⟨S,h1,h2,h3⟩:=s.own;have hnx:w'.h.next=w.h.next+1:=hn
 refine⟨w',rfl,⟨by have:=s.agree.next;omega,λi hi hb=>(hg i (mJ hi s.agree.next)).trans (s.agree.get i hi hb),λa b=>?_⟩,s.le.trans hle,s.gp,
  ⟨[w.h.next]++S,⟨[w.h.next],S,⟨rfl,at_.2⟩,eU.loc hle (λi hi=>hg i (h3 i hi).2.1) h1,rfl⟩,?_,?_⟩,λf hf=>f.mono hle (s.facts f hf)⟩
 ·have hl:=s.agree.low a b;have:=s.agree.next
  show h'.low=_;rw[ag.low (by omega),hl]
 ·refine BA.2 ⟨λhm=>?_,h2⟩;have:=(h3 _ hm).2.1;omega
 ·intro i hi;rcases dB.1 hi with hi|hi
  ·rw[bM.1 hi];exact⟨.inl s.agree.next,by omega,λhz=>absurd (w.nL _ hz) (Nat.lt_irrefl _)⟩
  ·exact⟨(h3 i hi).1,by have:=(h3 i hi).2.1;omega,(h3 i hi).2.2⟩
theorem abC{α:Type}{E:Enc α}{e:TypeId}{size bytes b':Nat}{s x:Operand}{v:Value}{xs:List α}{a:α}{y:E.Y}{cs:List Value}{k1 k2:List OA}(hn:Nat.blt d n=true)(hg:bW l g=true)
 (hs:ev l s=v) (hx:ev l x=.slice (some ⟨b',0,some 0⟩) 1 1) (hk:aA (ap E v xs) kl k1) (hc:aA (pt b' (.cells cs)) k1 k2) (hp:cs=E.pat a y) (hF:Sub (E.fs a y) F) (hz:E.n=size)
 (hm:(xs.length+1)*bytes<=1073741824/\(xs.length+1)*size<=1073741824/\xs.length+1<=1073741824):
 dO (R (λh=>aK P ds (⟨⟨some d,g,.append e size bytes s x⟩,[]⟩::rest) (act n l D pm ro) h K) B w0 kl F)
  (∀v',R (λh=>aK P ds rest (act n ((d,v')::l) D pm ro) h K) B w0 (ap E v' (xs++[a])::k2) F):=by
 refine⟨λr w st=>?_⟩;subst hp hz;have hlen:=E.len a y;have st2:St B w0 (ap E v xs::pt b' (.cells (E.pat a y))::k2) F w:=st.jH (.cons hk (.cons hc .nil));have hat:At w.h b' (.cells (E.pat a y)):=st2.at_ (.there .here);have rJ:St B w0 (ap E v xs::k2) F w:=(st2.fZ (.there .here)).tail;have hfs:∀f∈E.fs a y,f.p w:=λf hf=>st.facts f (hF.mem f hf);have hread:w.h.je b' 0 (1*E.n)=some (E.pat a y):=by
  rw[hat.c.je,rD,sJ,ug,DC,if_pos (by omega),<- hlen,bC]
 have hx1:oZ (ev l x)=some (0+1):=by rw[hx];rfl
 have hx2:nE E.n (0+1) (ev l x) w.h=some (E.pat a y):=by rw[hx];exact hread
 -- what lies there afterwards
 have put:∀(w':Wd) (c:Nat) (f:Nat) (cells:List Value),cells.length=xs.length*E.n->(∀(k:Nat) z,xs[k]? =some z->∃y,(∀(j:Nat) u,(E.pat z y)[j]? =some u->cells[k*E.n+j]? =some u)/\∀f∈E.fs z y,f.p w')->(∀f∈E.fs a y,f.p w')->
  (f=0\/f=E.n)->∀S,(pt c (.cells (cells++E.pat a y))).p w' S->(ap E (.slice (some ⟨c,0,some f⟩) (xs.length+1) (xs.length+1)) (xs++[a])).p w' S:=by
  intro w' c f cells h1 h2 h3 h4 S hp;refine .inr ⟨c,0,f,_,by rw[gU];rfl,h4,hp.1,hp.2,by rw[gU,gU,h1,hlen,uh,qo,ug,fC],λk z hk=>?_⟩;by_cases hlt:k<xs.length
  ·rw[qY hlt]at hk;obtain⟨y',q1,q2⟩:=h2 k z hk;refine⟨y',λj u hj=>?_,q2⟩;rw[fC];have:=q1 j u hj;rw[qY (bK.1 this).1];exact this
  ·rw[uZ (by omega)]at hk;have hk0:k=xs.length:=by
    have:=(bK.1 hk).1;simp at this;omega
   subst hk0;simp at hk;subst hk;refine⟨y,λj u hj=>?_,h3⟩;rw[fC,uZ (by omega),h1,WX];exact hj
 obtain⟨S,⟨S1,S2,q,q2,e1⟩,hnd,hown⟩:=rJ.own;rcases q with⟨rfl,rfl,rfl⟩|⟨b,o,f,cells,rfl,hf,rfl,hb,hcl,hel⟩
 ·refine aaB (c:=0) hn hg hs hx1 hx2 (by simpa using hm) λh' ag wZ hnx=>?_;obtain⟨w',rfl,lU⟩:=rJ.tail.fresh ag wZ hnx;refine r _ w' (lU.Ai λS hp=>?_);have hle:∀f∈E.fs a y,f.p w':=λf hf=>lU.facts f (hF.mem f hf);exact put w' _ E.n [] (by simp) (λk z hk=>by cases hk) hle (.inr rfl) S hp
 ·have ER:St B w0 (pt b (.cells cells)::k2) F w:=⟨rJ.agree,rJ.le,rJ.gp,⟨S,⟨_,S2,⟨rfl,hb⟩,q2,e1⟩,hnd,hown⟩,rJ.facts⟩
  have MB:At w.h b (.cells cells):=ER.at_ .here;refine RA (old:=cells.drop o) (xs:=E.pat a y) hn hg hs hx1 hx2 ?_ (hf.elim (λe=>.inl (by rw[e])) λe=>.inr (by rw[e])) hm λh' mv=>?_
  ·have hdl:(cells.drop o).length=xs.length*E.n:=by rw[ww];omega
   rw[MB.c.je,rD,sJ,if_pos (by omega),<- hdl,bC]
  obtain⟨w',rfl,lU,Iu⟩:=ER.move mv;refine r _ w' (lU.Ai λS hp=>?_);have hle:∀f∈E.fs a y,f.p w':=λf hf=>lU.facts f (hF.mem f hf);refine put w' _ E.n (cells.drop o) (by rw[ww];omega) (λk z hk=>?_) hle (.inr rfl) S hp;obtain⟨y',u1,u2⟩:=hel k z hk;exact⟨y',λj u hj=>by rw[qX,<- qm];exact u1 j u hj,λf hf=>f.mono Iu (u2 f hf)⟩
theorem abD{α:Type}{E:Enc α}{x lo:Operand}{v:Value}{q:α}{qs:List α}{size:Nat}(hn:Nat.blt d n=true)(hg:bW l g=true)(hx:ev l x=v)(hlo:ev l lo=.int .i64 1)(hz:E.n=size)(hk:aA (ap E v (q::qs)) kl kl'):
 dO (R (λh=>aK P ds (⟨⟨some d,g,.DU size x (some lo) none none⟩,[]⟩::rest) (act n l D pm ro) h K) B w0 kl F)
  (∀ad,R (λh=>aK P ds rest (act n ((d,.slice ad qs.length qs.length)::l) D pm ro) h K) B w0 (ap E (.slice ad qs.length qs.length) qs::kl') F):=by
 refine⟨λr w s=>?_⟩;subst hz;have s1:=s.fZ hk;obtain⟨S,⟨S1,S2,p,p2,e⟩,h2,h3⟩:=s1.own;rcases p with⟨h,_⟩|⟨b,o,f,cells,e1,hf,e2,hb,hcl,hel⟩
 ·cases h
 ·have hrun:(aG.DU E.n x (some lo) none none).run P (ev l) w.h=some (.slice (some ⟨b,o+E.n,some f⟩) qs.length qs.length,w.h):=by
   have hm:jf (ev l) (some lo)=some (.int .i64 1):=by simp only[jf,hlo]
   have hb:bounds? (qs.length+1) (qs.length+1) (some (.int .i64 1)) none none=some (1,qs.length+1,qs.length+1):=by
    show(match upTo (qs.length+1) (.int .i64 1)with|none=>none|some l=>some (l,qs.length+1,qs.length+1))=_;have:upTo (qs.length+1) (.int .i64 1)=some 1:=by
     show cond (Nat.ble 1 (qs.length+1)) (some 1) none=_;have:Nat.ble 1 (qs.length+1)=true:=by rw[tZ];omega
     rw[this];rfl
    rw[this]
   simp only[aG.run,hx,e1,oV,jf,hlo,hb];rcases hf with rfl|rfl
   ·show some (Value.slice (wF b (Nat.add o (Nat.mul 1 E.n))) (Nat.sub (qs.length+1) 1) (Nat.sub (qs.length+1) 1),w.h)=_;rw[show Nat.mul 1 E.n=E.n from ug _];rfl
   ·cases hE:E.n with
    |zero=>
     show some (Value.slice (wF b (Nat.add o (Nat.mul 1 0))) (Nat.sub (qs.length+1) 1) (Nat.sub (qs.length+1) 1),w.h)=_;rfl
    |succ j=>
     show cond (Nat.beq (Nat.succ j) (j+1)) (some (Value.slice (some ⟨b,Nat.add o (Nat.mul 1 (j+1)),some (Nat.succ j)⟩) (Nat.sub (qs.length+1) 1) (Nat.sub (qs.length+1) 1),w.h)) none=_;rw[show Nat.beq (Nat.succ j) (j+1)=true from Gh _,show Nat.mul 1 (j+1)=j+1 from ug _];rfl
  refine lT hn hg hrun (r _ w ⟨s1.agree,s1.le,s1.gp,⟨S,⟨S1,S2,.inr ⟨b,o+E.n,f,cells,rfl,hf,e2,hb,?_,λk z hz=>?_⟩,p2,e⟩,h2,h3⟩,s1.facts⟩)
  ·rw[hcl,oV,qo];omega
  ·obtain⟨y,u1,u2⟩:=hel (k+1) z (by simpa using hz);refine⟨y,λj u hj=>?_,u2⟩;have:=u1 j u hj;rw[show o+E.n+k*E.n+j=o+(k+1)*E.n+j by rw[qo];omega];exact this
theorem abE{x i:Operand}{v:Value}{xs:List Int}{z:Int}{k:Nat}{kk:IntKind}{d2:Nat}{g2:Option (Tmp×Bool)}(hn:Nat.blt d n=true)(hg:bW l g=true)(hn2:Nat.blt d2 n=true)(hg2:∀u,bW ((d,u)::l) g2=true)(hx:ev l x=v)(hi:ev l i=.int kk (k:Int))
 (hk:aA (ap aa v xs) kl kl') (hz:xs[k]? =some z):
 dO (R (λh=>aK P ds (⟨⟨some d,g,.nT 1 x i⟩,[]⟩::⟨⟨some d2,g2,.gT (.tmp d)⟩,[]⟩::rest) (act n l D pm ro) h K) B w0 kl F)
  (∀b o,R (λh=>aK P ds rest (act n ((d2,.int .i64 z)::(d,.pointer (some ⟨b,o,none⟩))::l) D pm ro) h K) B w0 kl F):=by
 refine⟨λr w s=>?_⟩;have s1:=s.fZ hk;obtain⟨S,⟨S1,S2,p,p2,e⟩,h2,h3⟩:=s1.own;have hlt:=(bK.1 hz).1;rcases p with⟨h,_⟩|⟨b,o,f,cells,e1,hf,e2,hb,hcl,hel⟩
 ·rw[h]at hz;cases hz
 ·subst e1;obtain⟨y,u1,_⟩:=hel k z hz;have hc:cells[o+(k:Int).toNat*1]? =some (.int .i64 z):=by
   have:=u1 0 (.int .i64 z) rfl;simpa[aa]using this
  refine Mj hn hg hx hi (by omega) (by omega) ?_;have hbS:b∈S:=by rw[e,e2];simp
  exact Ho hn2 (hg2 _) (by show lk _ d=_;simp[lk]) ⟨(h3 b hbS).2.1,hb⟩ hc (r _ _ w s)
end
end Go.Ideal
namespace Go.Ideal
variable {P:Program} {ρ:Operand->Value}
theorem rM{t:TypeId}{d:TypeDesc}(ht:P.underlying t=some d):eF P (underlying t)=some d:=by
 unfold underlying;rw[iy];show(some P).bind _=_;simp only[Option.bind,ht];rfl
theorem Cq{op:BinOp}{t:TypeId}{x y:Operand}{a b:Value}(ha:∀c,a≠.agg c)(hn:a≠.nilIface):eF P (eqGuard op t x y a b)=some ():=by
 cases a with
 |nilIface=>exact absurd rfl hn
 |agg c=>exact absurd rfl (ha c)
 |_=>cases op<;>rfl
theorem R5{t:TypeId}{x y:Operand}{a b:Bool}(ht:P.underlying t=some .bool):l8 P .eql t x y (.bool a) (.bool b)=some (.bool (a==b))/\l8 P .neq t x y (.bool a) (.bool b)=some (.bool (a !=b)):=by
 have he:eF P (Op.equal t (.bool a) (.bool b))=some (a==b):=by
  show eF P (Op.equalIn (9999+1) t (.bool a) (.bool b))=_;unfold Op.equalIn;rw[iy,rM ht];rfl
 have h1:kQ P (do eqGuard .eql t x y (.bool a) (.bool b);binOp .eql t (.bool a) (.bool b))=some (.bool (a==b)):=by
  unfold kQ;rw[iy,Cq (by intro c e;cases e) (by intro e;cases e)];simp only[jd,binOp];rw[iy,he];rfl
 have h2:kQ P (do eqGuard .neq t x y (.bool a) (.bool b);binOp .neq t (.bool a) (.bool b))=some (.bool (a !=b)):=by
  unfold kQ;rw[iy,Cq (by intro c e;cases e) (by intro e;cases e)];simp only[jd,binOp];rw[iy,he];rfl
 exact⟨h1,h2⟩
theorem Iw{x y:Operand}{t:TypeId}{a b:Bool}(hx:ρ x=.bool a)(hy:ρ y=.bool b)(ht:P.underlying t=some .bool):Pu P ρ (.bin .eql t x y) (.bool (a==b)):=λh=>by
 simp only[aG.run,hx,hy,(R5 ht).1]
theorem Iy{x y:Operand}{t:TypeId}{a b:Bool}(hx:ρ x=.bool a)(hy:ρ y=.bool b)(ht:P.underlying t=some .bool):Pu P ρ (.bin .neq t x y) (.bool (a !=b)):=λh=>by
 simp only[aG.run,hx,hy,(R5 ht).2]
theorem R6{op:BinOp}{t:TypeId}{x y:Operand}{a b:ByteArray}{v:Value}(hv:eF P (Op.stringOp op a b)=some v)(hf:cz v=true):l8 P op t x y (.string a) (.string b)=some v:=by
 have h1:kQ P (do eqGuard op t x y (.string a) (.string b);binOp op t (.string a) (.string b))=some v:=by
  unfold kQ;rw[iy,Cq (by intro c e;cases e) (by intro e;cases e)];have hb:binOp op t (.string a) (.string b)=Op.stringOp op a b:=by cases op<;>rfl
  simp only[jd,hb,hv,hf,cond]
 exact h1
theorem Iz{x y:Operand}{t:TypeId}{a b:ByteArray}(hx:ρ x=.string a)(hy:ρ y=.string b):Pu P ρ (.bin .eql t x y) (.bool (a.toList==b.toList)):=λh=>by
 simp only[aG.run,hx,hy,R6 (op:=.eql) (v:=.bool (a.toList==b.toList)) rfl rfl]
theorem IA{x y:Operand}{t:TypeId}{a b:ByteArray}(hx:ρ x=.string a)(hy:ρ y=.string b):Pu P ρ (.bin .neq t x y) (.bool (!(a.toList==b.toList))):=λh=>by
 simp only[aG.run,hx,hy,R6 (op:=.neq) (v:=.bool (!(a.toList==b.toList))) rfl rfl]
theorem Aj{op:BinOp}{t:TypeId}{x y:Operand}{a b:Int}{v:Value}(hq:pJ op .i64 a b=none)(hv:eF P (binOp op t (.int .i64 a) (.int .i64 b))=some v)(hf:cz v=true):l8 P op t x y (.int .i64 a) (.int .i64 b)=some v:=by
 have h1:kQ P (do eqGuard op t x y (.int .i64 a) (.int .i64 b);binOp op t (.int .i64 a) (.int .i64 b))=some v:=by
  unfold kQ;rw[iy,Cq (by intro c e;cases e) (by intro e;cases e)];simp only[jd,hv,hf,cond]
 unfold l8;simp only[uq,cond,hq,cz,Kk];exact h1
theorem wrap64{m:Int}(h1: -9223372036854775808<=m)(h2:m<9223372036854775808):IntKind.i64.wrap m=m:=IntWalk.i64_in m ⟨h1,by omega⟩
theorem IB{x y:Operand}{t:TypeId}{a b:Int}(hx:ρ x=.int .i64 a)(hy:ρ y=.int .i64 b)(h1: -9223372036854775808<=a*b)(h2:a*b<9223372036854775808):Pu P ρ (.bin .mul t x y) (.int .i64 (a*b)):=λh=>by
 simp only[aG.run,hx,hy];rw[Aj (op:=.mul) (v:=.int .i64 (a*b)) rfl (by
  show eF P (Op.intArith .mul .i64 a b)=_;show some (Value.int .i64 (IntKind.i64.wrap (a*b)))=_;rw[wrap64 h1 h2]) rfl]
theorem IC{x y:Operand}{t:TypeId}{a b:Int}(hx:ρ x=.int .i64 a)(hy:ρ y=.int .i64 b)(hb:b≠0)(h1: -9223372036854775808<=a.tdiv b)(h2:a.tdiv b<9223372036854775808):Pu P ρ (.bin .quo t x y) (.int .i64 (a.tdiv b)):=λh=>by
 simp only[aG.run,hx,hy];rw[Aj (op:=.quo) (v:=.int .i64 (a.tdiv b)) rfl (by
  show eF P (Op.intDiv .quo .i64 a b)=_;unfold Op.intDiv;rw[if_neg hb];show some (Value.int .i64 (IntKind.i64.wrap (a.tdiv b)))=_;rw[wrap64 h1 h2]) rfl]
theorem MC{x y:Operand}{t:TypeId}{a b:Int}(hx:ρ x=.int .i64 a)(hy:ρ y=.int .i64 b)(hb:b≠0):Pu P ρ (.bin .rem t x y) (.int .i64 (a.tmod b)):=λh=>by
 simp only[aG.run,hx,hy];rw[Aj (op:=.rem) (v:=.int .i64 (a.tmod b)) rfl (by
  show eF P (Op.intDiv .rem .i64 a b)=_;unfold Op.intDiv;rw[if_neg hb];rfl) rfl]
theorem IE{x i:Operand}{size b o m c k:Nat}{f:Option Nat}{kk:IntKind}(hx:ρ x=.slice (some ⟨b,o,f⟩) m c)(hi:ρ i=.int kk (k:Int))(h1:k<m):
 Pu P ρ (.nT size x i) (.pointer (some ⟨b,o+k*size,none⟩)):=EQ (k:=(k:Int)) hx hi (by omega) (by omega)
end Go.Ideal
namespace Go.Ideal
variable {P:Program}
def Left{Y:Type}(B:List Nat)(w0:Wd)(val:Y->Value)(kl':Y->List OA)(fs:Y->List aL)(pr:Y->Prop):KR:=λr pm h'=>
 pm=none/\∃(w':Wd) (y:Y),w'.h=h'/\St B w0 (kl' y) (fs y) w'/\r=.ok (val y)/\pr y
def aV{Y:Type}(P:Program)(fn:Fn)(args cap:List Value)(kl:List OA)(F:List aL)(val:Y->Value)(kl':Y->List OA)(fs:Y->List aL)(pr:Y->Prop):Prop:=
 ∀(B:List Nat) (w:Wd),St B w kl F w->CALL P ⟨fn,args,cap,none⟩ w.h (Left B w val kl' fs pr)
def pW:Nat->List Value->List (Nat×Value)->List (Nat×Value)
 |_,[],l=>l
 |i,v::vs,l=>pW (i+1) vs ((i,v)::l)
theorem R7:∀(args:List Value) (i:Nat) (l:List (Nat×Value)),wH args i (gP l)=gP (pW i args l)
 |[],i,l=>rfl
 |v::vs,i,l=>by
  show wH vs (i+1) (gP ((i,v)::l))=_;rw[R7 vs];rfl
theorem ME(n:Nat)(args:List Value)(pm:Option FrameMode):zP n args pm=act (rA n (iM args)) (pW 0 args []) [] pm none:=by
 show aX.mk _ (wH args 0 (gP [])) _ _ _=_;rw[R7];rfl
theorem abF{Y:Type}{f:FuncId}{args cap:List Value}{kl:List OA}{F:List aL}{val:Y->Value}{kl':Y->List OA}{fs:Y->List aL}{pr:Y->Prop}(cf:gW)(hF:(pK P qB pM).F f=some cf)
 (hb:∀B w0,R (λh=>EV P cf.body (act (rA cf.ntmps (iM (args++cap))) (pW 0 (args++cap) []) [] none none) h (Ck cf (Left B w0 val kl' fs pr))) B w0 kl F):aV P (.func f) args cap kl F val kl' fs pr:=by
 intro B w s;obtain⟨fn,h1,h2⟩:=(Cj P qB pM (λf q h v h' hm=>by cases hm)).fn f cf hF;refine aat fn h1 cf h2 ?_;rw[ME];exact hb B w w s
section
variable {B:List Nat} {w0:Wd} {kl kl' bA:List OA} {F:List aL} {K:KO} {ds:List Tmp} {rest:List bT} {n:Nat} {l:List (Nat×Value)} {D:List Deferred} {pm:Option FrameMode} {ro:Option Nat} {d:Nat} {g:Option (Tmp×Bool)}
theorem St.call{w w':Wd}{k1 k1' bA:List OA}{F1 F':List aL}{S1 S2:List Nat}(s:St B w0 kl F w)(hp:∃S:List Nat,S.Perm (S1++S2)/\S.Nodup/\∀i∈S,(w0.h.next<=i\/i∈B)/\i<w.h.next/\¬w.z i)
 (h2:eU w bA S2) (c:St S1 w k1' F' w'):St B w0 (k1'++bA) (F'++F) w':=by
 obtain⟨S,hperm,abG,hall⟩:=hp;have hnd:=hperm.nodup abG;have hall:∀i∈S1++S2,(w0.h.next<=i\/i∈B)/\i<w.h.next/\¬w.z i:=λi hi=>hall i (hperm.mem_iff.2 hi)
 have hd:=iq.1 hnd;obtain⟨S',c1,c2,c3⟩:=c.own;have hsame:∀i∈S2,w'.h.get i=w.h.get i:=λi hi=>c.agree.get i (hall i (qp _ hi)).2.1 (λhm=>hd.2.2 i hm i hi rfl);refine⟨⟨oU s.agree.next c.agree.next,λi hi hB=>?_,λa b=>?_⟩,s.le.trans c.le,λi hi hz=>?_,⟨S'++S2,c1.app (eU.loc c.le hsame h2),?_,?_⟩,λf hf=>?_⟩
 ·rw[<- s.agree.get i hi hB];refine c.agree.get i (mJ hi s.agree.next) (λhm=>?_);rcases(hall i (kZ _ hm)).1 with q|q
  ·omega
  ·exact hB q
 ·have hl:=s.agree.low a b;rw[c.agree.low (by rw[hl];exact oU a s.agree.next) (λi hi=>?_),hl];rw[hl];rcases(hall i (kZ _ hi)).1 with q|q
  ·omega
  ·exact b i q
 ·rcases c.gp i (mJ hi s.agree.next) hz with q|q
  ·exact s.gp i hi q
  ·rcases(hall i (kZ _ q)).1 with u|u
   ·omega
   ·exact .inr u
 ·refine iq.2 ⟨c2,hd.2.1,λa ha b hb e=>?_⟩;subst e;rcases(c3 a ha).1 with q|q
  ·have:=(hall a (qp _ hb)).2.1;omega
  ·exact hd.2.2 a q a hb rfl
 ·intro i hi;rcases dB.1 hi with hi|hi
  ·refine⟨?_,(c3 i hi).2⟩;rcases(c3 i hi).1 with q|q
   ·exact .inl (oU s.agree.next q)
   ·exact(hall i (kZ _ q)).1
  ·have q:=hall i (qp _ hi);refine⟨q.1,mJ q.2.1 c.agree.next,λhz=>?_⟩;rcases c.gp i q.2.1 hz with u|u
   ·exact q.2.2 u
   ·exact hd.2.2 i u i hi rfl
 ·rcases dB.1 hf with hf|hf
  ·exact c.facts f hf
  ·exact f.mono c.le (s.facts f hf)
def Same(P:Program)(re:List iD)(ρ:Operand->Value)(l:List (Nat×Value))(B:List Nat)(w0:Wd)(kl:List OA)(F:List aL):Prop:=
 ∀w,St B w0 kl F w->∀r∈re,∃u h2,r.op.run P ρ w.h=some (u,h2)/\∀d',r.dst=some d'->lk l d'=u
theorem Cr{ρ:Operand->Value}:Same P [] ρ l B w0 kl F:=λw s r hr=>by cases hr
theorem Cs{re:List iD}{x:Operand}{b o:Nat}{cs:List Value}{v:Value}(hx:ev l x=.pointer (some ⟨b,o,none⟩))(hk:aA (pt b (.cells cs)) kl kl')(hv:jX cs o=some v)(hd:lk l d=v)
 (t:Same P re (ev l) l B w0 kl F):Same P (⟨some d,g,.gT x⟩::re) (ev l) l B w0 kl F:=λw s r hr=>by
 rcases dG.1 hr with rfl|hr
 ·have hc:w.h.oD b o=some v:=by rw[(s.at_ hk).c.oD,<- sI];exact hv
  exact⟨v,w.h,by simp only[aG.run,hx,hc],λd' e=>by cases e;exact hd⟩
 ·exact t w s r hr
theorem ES{re:List iD}{x:Operand}{b o:Nat}{cs:List Value}{v:Value}(hx:ev l x=.pointer (some ⟨b,o,none⟩))(hk:bZ b o cs∈F)(hv:jX cs 0=some v)(hd:lk l d=v)
 (t:Same P re (ev l) l B w0 kl F):Same P (⟨some d,g,.gT x⟩::re) (ev l) l B w0 kl F:=λw s r hr=>by
 rcases dG.1 hr with rfl|hr
 ·exact⟨v,w.h,by simp only[aG.run,hx,show w.h.oD b o=some v from Iq (j:=0) (s.facts _ hk) hv],λd' e=>by cases e;exact hd⟩
 ·exact t w s r hr
theorem ET{re:List iD}{x:Operand}{b o j:Nat}{cs:List Value}{v:Value}(hx:ev l x=.pointer (some ⟨b,o+j,none⟩))(hk:bZ b o cs∈F)(hv:jX cs j=some v)(hd:lk l d=v)
 (t:Same P re (ev l) l B w0 kl F):Same P (⟨some d,g,.gT x⟩::re) (ev l) l B w0 kl F:=λw s r hr=>by
 rcases dG.1 hr with rfl|hr
 ·exact⟨v,w.h,by simp only[aG.run,hx,Iq (s.facts _ hk) hv],λd' e=>by cases e;exact hd⟩
 ·exact t w s r hr
theorem EU{re:List iD}{x:Operand}{b o m:Nat}{cs c:List Value}(hx:ev l x=.pointer (some ⟨b,o,none⟩))(hk:aA (pt b (.cells cs)) kl kl')(hv:jv (jR cs o) m=some c)(hd:lk l d=.agg ⟨c⟩)
 (t:Same P re (ev l) l B w0 kl F):Same P (⟨some d,g,.qw m x⟩::re) (ev l) l B w0 kl F:=λw s r hr=>by
 rcases dG.1 hr with rfl|hr
 ·have hc:w.h.je b o m=some c:=by rw[(s.at_ hk).c.je];exact hv
  exact⟨.agg ⟨c⟩,w.h,by simp only[aG.run,hx,hc],λd' e=>by cases e;exact hd⟩
 ·exact t w s r hr
theorem EW{re:List iD}{x:Operand}{b o m:Nat}{cs c:List Value}(hx:ev l x=.pointer (some ⟨b,o,none⟩))(hk:bZ b o cs∈F)(hv:jv cs m=some c)(hd:lk l d=.agg ⟨c⟩)
 (t:Same P re (ev l) l B w0 kl F):Same P (⟨some d,g,.qw m x⟩::re) (ev l) l B w0 kl F:=λw s r hr=>by
 rcases dG.1 hr with rfl|hr
 ·exact⟨.agg ⟨c⟩,w.h,by simp only[aG.run,hx,show w.h.je b o m=some c from Ir (j:=0) (s.facts _ hk) (by rw[rD];exact hv)],λd' e=>by cases e;exact hd⟩
 ·exact t w s r hr
theorem EX{re:List iD}{x:Operand}{b o j m:Nat}{cs c:List Value}(hx:ev l x=.pointer (some ⟨b,o+j,none⟩))(hk:bZ b o cs∈F)(hv:jv (jR cs j) m=some c)(hd:lk l d=.agg ⟨c⟩)
 (t:Same P re (ev l) l B w0 kl F):Same P (⟨some d,g,.qw m x⟩::re) (ev l) l B w0 kl F:=λw s r hr=>by
 rcases dG.1 hr with rfl|hr
 ·exact⟨.agg ⟨c⟩,w.h,by simp only[aG.run,hx,Ir (s.facts _ hk) hv],λd' e=>by cases e;exact hd⟩
 ·exact t w s r hr
theorem R8{re:List iD}{op:aG}{v:Value}(hp:Pu P (ev l) op v)(hd:lk l d=v)(t:Same P re (ev l) l B w0 kl F):Same P (⟨some d,g,op⟩::re) (ev l) l B w0 kl F:=λw s r hr=>by
 rcases dG.1 hr with rfl|hr
 ·exact⟨v,w.h,hp w.h,λd' e=>by cases e;exact hd⟩
 ·exact t w s r hr
theorem abH{x y:Operand}{b o m:Nat}{cs vs c:List Value}{v:Value}{re:List iD}(hg:bW l g=true)(hx:ev l x=.pointer (some ⟨b,o,none⟩))(hw:ev l y=v)(hy:cellsOf v=some vs)(hm:Nat.beq (iM vs) m=true)
 (hk:aA (pt b (.cells cs)) kl kl') (hv:jY cs o vs=some c) (hs:Same P re (ev l) l B w0 (pt b (.cells c)::kl') F):
 dO (R (λh=>aK P ds (⟨⟨none,g,.store m x y⟩,re⟩::rest) (act n l D pm ro) h K) B w0 kl F) (R (λh=>aK P ds rest (act n l D pm ro) h K) B w0 (pt b (.cells c)::kl') F):=
 ⟨λr w s=>by
  subst hw;have s':=(s.fZ hk).write (o':=.cells c);refine .lq (vK hg) dR (w.h.set b (.cells c)) (by rw[nK];simp only[aG.run,hx,hy,hm];simp only[IH.storeAt,(s.at_ hk).2,hv];rfl) (λq hq _=>?_) (r _ s');obtain⟨u,h2,e1,e2⟩:=hs _ s' q hq;exact⟨u,h2,by show q.op.run P (act n l D pm ro).eval _=_;rw[nK];exact e1,λd' hd=>by rw[<- e2 d' hd];exact uJ _ _⟩⟩
theorem abI{op:aG}{v:Value}{re:List iD}(hn:Nat.blt d n=true)(hg:bW l g=true)(hp:Pu P (ev l) op v)(hs:Same P re (ev ((d,v)::l)) ((d,v)::l) B w0 kl F):
 dO (R (λh=>aK P ds (⟨⟨some d,g,op⟩,re⟩::rest) (act n l D pm ro) h K) B w0 kl F) (R (λh=>aK P ds rest (act n ((d,v)::l) D pm ro) h K) B w0 kl F):=
 ⟨λr w s=>by
  refine .lq (vK hg) v w.h (by rw[nK];exact hp w.h) (λq hq _=>?_) (by rw[pV hn];exact r w s);obtain⟨u,h2,e1,e2⟩:=hs w s q hq;rw[pV hn];exact⟨u,h2,by rw[nK];exact e1,λd' hd=>by rw[<- e2 d' hd];exact uJ _ _⟩⟩
theorem abJ{Y:Type}{f:Operand}{xs:List Operand}{re:List iD}{fn:Fn}{first captured vs as:List Value}{k1:List OA}{F1:List aL}{val:Y->Value}{k1':Y->List OA}{fs:Y->List aL}{pr:Y->Prop}
 (hc:aV P fn as captured k1 F1 val k1' fs pr) (hn:Nat.blt d n=true) (hg:bW l g=true) (hf:ev l f=.func fn ⟨first⟩ ⟨captured⟩) (hx:EvL (ev l) xs vs) (ha:first++vs=as)
 (hk:aJ k1 kl bA) (hF:Sub F1 F)
 (hs:∀y,pr y->Same P re (ev ((d,val y)::l)) ((d,val y)::l) B w0 (k1' y++bA) (fs y++F))
 (next:∀y,pr y->R (λh=>aK P ds rest (act n ((d,val y)::l) D pm ro) h K) B w0 (k1' y++bA) (fs y++F)):
 R (λh=>aK P ds (⟨⟨some d,g,.call f xs⟩,re⟩::rest) (act n l D pm ro) h K) B w0 kl F:=by
 intro w s;obtain⟨S,h1,h2,h3⟩:=s.own;obtain⟨S1,S2,q1,q2,hp⟩:=h1.jH hk;have hsub:∀i∈S1,i∈S:=λi hi=>hp.mem_iff.2 (kZ _ hi);have s1:St S1 w k1 F1 w:=⟨⟨bU _,λ_ _ _=>rfl,λ_ _=>rfl⟩,Wd.Le.refl w,λi _ hz=>.inl hz,⟨S1,q1,(iq.1 (hp.nodup h2)).1,λi hi=>⟨.inr hi,(h3 i (hsub i hi)).2⟩⟩,λf hf=>s.facts f (hF.mem f hf)⟩
 have hcall:=hc S1 w s1;subst ha;rw[<- hx.map]at hcall;have back:∀(w':Wd) (y:Y),St S1 w (k1' y) (fs y) w'->St B w0 (k1' y++bA) (fs y++F) w':=λw' y c=>s.call (k1:=k1) (F1:=F1) ⟨S,hp,h2,h3⟩ q2 c;refine s_call hn hg fn hf _ hcall ?_ ?_ ?_ ?_
 ·rintro v h' ⟨_,w',y,rfl,c,hv,hpr⟩;injection hv with hv;subst hv;exact hs y hpr w' (back w' y c)
 ·rintro v h' ⟨_,w',y,rfl,c,hv,hpr⟩;injection hv with hv;subst hv;exact next y hpr w' (back w' y c)
 ·rintro ch h' ⟨_,w',y,rfl,c,hv,hpr⟩;cases hv
 ·rintro r p h' ⟨e,_⟩;exact e
inductive RS(l:List (Nat×Value))(kl:List OA):List qy->List Value->Prop
 |nil:RS l kl [] []
 |tmp {t:Tmp} {rs:List qy} {v:Value} {vs:List Value} (h:lk l t=v) (r:RS l kl rs vs):RS l kl (.tmp t::rs) (v::vs)
 |cell1 {t:Tmp} {rs:List qy} {v:Value} {vs cs:List Value} {b o:Nat} {kl':List OA} (h:lk l t=.pointer (some ⟨b,o,none⟩)) (hk:aA (pt b (.cells cs)) kl kl') (hv:jX cs o=some v) (r:RS l kl rs vs):RS l kl (.cell1 t::rs) (v::vs)
 |qz {n:Nat} {t:Tmp} {rs:List qy} {vs cs c:List Value} {b o:Nat} {kl':List OA} (h:lk l t=.pointer (some ⟨b,o,none⟩)) (hk:aA (pt b (.cells cs)) kl kl') (hv:jv (jR cs o) n=some c) (r:RS l kl rs vs):
   RS l kl (.qz n t::rs) (.agg ⟨c⟩::vs)
theorem RS.all{w:Wd}(s:St B w0 kl F w):∀{rs:List qy} {vs:List Value},RS l kl rs vs->wI (gP l) w.h rs=some vs
 |_,_,.nil=>rfl
 |_,_,.tmp (t:=t) (rs:=rs) (v:=v) (vs:=vs) h r=>by
  have ih:=RS.all s r;show(match sG (gP l) w.h (.tmp t),wI (gP l) w.h rs with|some v,some vs=>some (v::vs)|_,_=>none)=_;rw[ih];simp only[sG,uJ,h]
 |_,_,.cell1 (t:=t) (rs:=rs) (v:=v) (vs:=vs) h hk hv r=>by
  have ih:=RS.all s r;show(match sG (gP l) w.h (.cell1 t),wI (gP l) w.h rs with|some v,some vs=>some (v::vs)|_,_=>none)=_;rw[ih];simp only[sG,uJ,h,(s.at_ hk).2,hv]
 |_,_,.qz (n:=n) (t:=t) (rs:=rs) (vs:=vs) (c:=c) h hk hv r=>by
  have ih:=RS.all s r;show(match sG (gP l) w.h (.qz n t),wI (gP l) w.h rs with|some v,some vs=>some (v::vs)|_,_=>none)=_;rw[ih];simp only[sG,uJ,h,IH.kR,(s.at_ hk).2,hv]
def rO(vs:List Value):Value:=
 match vs with
 |[v]=>v
 |vs=>.tuple ⟨vs⟩
theorem R9{Y:Type}{o:Out}{cf:gW}{vs:List Value}{val:Y->Value}{k1:Y->List OA}{fs:Y->List aL}{pr:Y->Prop}(y:Y)(hr:RS l kl cf.results vs)(hv:rO vs=val y)(hp:pr y)(hk:aJ (k1 y) kl bA)(hF:Sub (fs y) F)
 (ho:o=.normal\/o=.ret):R (λh=>Ck cf (Left B w0 val k1 fs pr) o (act n l [] none ro) h) B w0 kl F:=by
 intro w s;have h1:qA cf.results (gP l) w.h=some (val y):=by
  unfold qA;rw[hr.all s];rw[<- hv];match vs with
  |[]=>rfl
  |[v]=>rfl
  |_::_::_=>rfl
 have h2:Left B w0 val k1 fs pr (.ok (val y)) none w.h:=⟨rfl,w,y,rfl,((s.jH hk).drop).sub hF,rfl,hp⟩
 rcases ho with rfl|rfl
 ·exact⟨val y,h1,rfl,h2⟩
 ·exact⟨val y,h1,rfl,h2⟩
inductive j6{α:Type}(F0:List α):List α->Prop
 |here:j6 F0 F0
 |cons {a:α} {F:List α} (h:j6 F0 F):j6 F0 (a::F)
 |app {G F:List α} (h:j6 F0 F):j6 F0 (G++F)
theorem j6.mem{α:Type}{F0:List α}:∀{F:List α},j6 F0 F->∀f∈F0,f∈F
 |_,.here,f,hf=>hf
 |_,.cons h,f,hf=>dN _ (h.mem f hf)
 |_,.app h,f,hf=>qp _ (h.mem f hf)
inductive oL:List (Nat×Value)->List (Nat×Value)->List (Nat×Value)->Prop
 |nil {ks:List (Nat×Value)}:oL [] ks []
 |drop {k:Nat} {v:Value} {l ks r:List (Nat×Value)} (h:(ks.any λp=>Nat.beq p.1 k)=true) (t:oL l ks r):oL ((k,v)::l) ks r
 |keep {k:Nat} {v:Value} {l ks r:List (Nat×Value)} (h:(ks.any λp=>Nat.beq p.1 k)=false) (t:oL l ((k,v)::ks) r):oL ((k,v)::l) ks ((k,v)::r)
def LI{X:Type}(n:Nat)(D:List Deferred)(pm:Option FrameMode)(ro:Option Nat)(B:List Nat)(w0:Wd)(m:X->Nat)(L:X->List (Nat×Value))(KL:X->List OA)(FF:X->List aL)(inv:X->Prop)
 (l0:List (Nat×Value)) (bA:List OA) (F0:List aL):Nat->aX->IH->Prop:=λr a h=>
 ∃(x:X) (w:Wd),r=m x/\a=act n (L x++l0) D pm ro/\w.h=h/\St B w0 (KL x++bA) (FF x++F0) w/\inv x
theorem abK{X:Type}{c:dm}(m:X->Nat)(L:X->List (Nat×Value))(KL:X->List OA)(FF:X->List aL)(inv:X->Prop)(x0:X)(hi:inv x0)(l0:List (Nat×Value))(hl:sub (L x0++l0) l)(hk:aJ (KL x0) kl bA)(hF:Sub (FF x0) F)
 (body:∀x,inv x->R (λh=>EV P c (act n (L x++l0) D pm ro) h (uK (LI n D pm ro B w0 m L KL FF inv l0 bA F) (m x) K)) B w0 (KL x++bA) (FF x++F)):
 R (λh=>EV P (.loop c) (act n l D pm ro) h K) B w0 kl F:=by
 intro w s;refine Mc (Hf hl) ?_;refine Ro (LI n D pm ro B w0 m L KL FF inv l0 bA F) ?_ (m x0) _ _ ⟨x0,w,rfl,rfl,rfl,(s.jH hk).add (λf hf=>s.facts f (hF.mem f hf)),hi⟩;rintro r a h ⟨x,w',rfl,rfl,rfl,s',hx⟩;exact body x hx w' s'
theorem abL{X:Type}{m:X->Nat}{L:X->List (Nat×Value)}{KL:X->List OA}{FF:X->List aL}{inv:X->Prop}{l0:List (Nat×Value)}{dX:List OA}{F0:List aL}{m0:Nat}(x:X)(hm:m x<m0)(hi:inv x)(hl:sub (L x++l0) l)
 (hk:aJ (KL x++bA) kl dX) (hF:Sub (FF x) F) (wY:j6 F0 F):R (λh=>uK (LI n D pm ro B w0 m L KL FF inv l0 bA F0) m0 K .normal (act n l D pm ro) h) B w0 kl F:=by
 intro w s;refine Rz (m x) hm hl ⟨x,w,rfl,rfl,rfl,?_,hi⟩;have s':=(s.jH hk).drop;exact⟨s'.agree,s'.le,s'.gp,s'.own,λf hf=>(dB.1 hf).elim (λhf=>s.facts f (hF.mem f hf)) (λhf=>s.facts f (wY.mem f hf))⟩
end
