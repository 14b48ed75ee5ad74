/-
  The ideal machine, 50: worlds with frozen blocks, facts, owned blocks; what holds of all of them.
-/
import Derived.Test.YtbdaaopebgcnaaaGreatDoorIdealHM
set_option linter.all false
namespace Go.Ideal
variable {P:Program}
structure Wd where
 h:IH
 z:Nat->Prop
 gX:∀i,z i->i<h.next
structure Wd.Le(w w':Wd):Prop where
 next:w.h.next<=w'.h.next
 z:∀i,w.z i->w'.z i
 get:∀i,w.z i->w'.h.get i=w.h.get i
theorem Wd.Le.refl(w:Wd):w.Le w:=⟨aC _,λ_ h=>h,λ_ _=>rfl⟩
theorem Wd.Le.trans{w w' w'':Wd}(a:w.Le w')(b:w'.Le w''):w.Le w'':=
 ⟨cO a.next b.next,λi h=>b.z i (a.z i h),λi h=>(b.get i (a.z i h)).trans (a.get i h)⟩
structure aB where
 p:Wd->Prop
 mono:∀{w w':Wd},w.Le w'->p w->p w'
def Fz(w:Wd)(b:Nat)(cs:List Value):Prop:=w.z b/\(w.h.get b=some (.cells cs)\/w.h.get b=some (.fM cs))
theorem Fz.mono{w w':Wd}(a:w.Le w'){b:Nat}{cs:List Value}(h:Fz w b cs):Fz w' b cs:=⟨a.z b h.1,by rw[a.get b h.1];exact h.2⟩
theorem Fz.cells{w:Wd}{b:Nat}{cs:List Value}(h:Fz w b cs):Cells w.h b cs:=⟨w.gX b h.1,h.2⟩
def bU(b o:Nat)(cs:List Value):aB:=
 ⟨λw=>∃cells,Fz w b cells/\∀(j:Nat) u,cs[j]? =some u->cells[o+j]? =some u,λa ⟨cells,h1,h2⟩=>⟨cells,h1.mono a,h2⟩⟩
structure Enc(α:Type) where
 n:Nat
 Y:Type
 pat:α->Y->List Value
 fs:α->Y->List aB
 len:∀a y,(pat a y).length=n
def IX(n:Nat):Option Addr->Prop
 |none=>True
 |some ⟨_,_,some f⟩=>f=0\/f=n
 |some ⟨_,_,none⟩=>False
def ae{α:Type}(E:Enc α)(v:Value)(xs:List α):aB:=
 ⟨λw=>(xs=[]/\∃a c,v=.slice a 0 c/\IX E.n a)\/∃i o f c cells,(v=.slice (some ⟨i,o,some f⟩) xs.length c/\xs.length<=c/\(f=0\/f=E.n))/\Fz w i cells/\
  ∀(k:Nat) x,xs[k]? =some x->∃y,(∀(j:Nat) u,(E.pat x y)[j]? =some u->cells[o+k*E.n+j]? =some u)/\∀f∈E.fs x y,f.p w,
  λa h=>by
   rcases h with h|⟨i,o,f,c,cells,h1,h2,h3⟩
   ·exact .inl h
   ·refine .inr ⟨i,o,f,c,cells,h1,h2.mono a,λk x hk=>?_⟩;obtain⟨y,q1,q2⟩:=h3 k x hk;exact⟨y,q1,λf hf=>f.mono a (q2 f hf)⟩⟩
def az:Enc Int:=⟨1,Unit,λx _=>[.int .i64 x],λ_ _=>[],λ_ _=>rfl⟩
def mO:Enc Bool:=⟨1,Unit,λx _=>[.bool x],λ_ _=>[],λ_ _=>rfl⟩
def eP:Enc ByteArray:=⟨1,Unit,λx _=>[.string x],λ_ _=>[],λ_ _=>rfl⟩
def bC{α:Type}(E:Enc α):Enc (List α):=⟨1,Value,λ_ v=>[v],λxs v=>[ae E v xs],λ_ _=>rfl⟩
structure OA where
 p:Wd->List Nat->Prop
 loc:∀{w w':Wd} {S:List Nat},w.Le w'->(∀i∈S,w'.h.get i=w.h.get i)->p w S->p w' S
def pt(b:Nat)(o:bQ):OA:=⟨λw S=>S=[b]/\w.h.get b=some o,λa h ⟨h1,h2⟩=>⟨h1,by rw[h b (by rw[h1];exact cB.2 rfl)];exact h2⟩⟩
def ap{α:Type}(E:Enc α)(v:Value)(xs:List α):OA:=
 ⟨λw S=>(xs=[]/\v=.slice none 0 0/\S=[])\/∃b o f cells,v=.slice (some ⟨b,o,some f⟩) xs.length xs.length/\(f=0\/f=E.n)/\S=[b]/\w.h.get b=some (.cells cells)/\cells.length=o+xs.length*E.n/\
  ∀(k:Nat) x,xs[k]? =some x->∃y,(∀(j:Nat) u,(E.pat x y)[j]? =some u->cells[o+k*E.n+j]? =some u)/\∀f∈E.fs x y,f.p w,
  λa h hp=>by
   rcases hp with hp|⟨b,o,f,cells,h1,h2,h3,h4,h5,h6⟩
   ·exact .inl hp
   ·refine .inr ⟨b,o,f,cells,h1,h2,h3,by rw[h b (by rw[h3];exact cB.2 rfl)];exact h4,h5,λk x hk=>?_⟩;obtain⟨y,q1,q2⟩:=h6 k x hk;exact⟨y,q1,λf hf=>f.mono a (q2 f hf)⟩⟩
def gD(w:Wd):List OA->List Nat->Prop
 |[],S=>S=[]
 |A::kl,S=>∃S1 S2,A.p w S1/\gD w kl S2/\S=S1++S2
theorem gD.loc{w w':Wd}(a:w.Le w'):∀{kl:List OA} {S:List Nat},(∀i∈S,w'.h.get i=w.h.get i)->gD w kl S->gD w' kl S
 |[],S,_,h=>h
 |A::kl,S,hs,⟨S1,S2,h1,h2,e⟩=>⟨S1,S2,A.loc a (λi hi=>hs i (by rw[e];exact mD _ hi)) h1,gD.loc a (λi hi=>hs i (by rw[e];exact nC _ hi)) h2,e⟩
theorem gD.app{w:Wd}:∀{k1 k2:List OA} {S1 S2:List Nat},gD w k1 S1->gD w k2 S2->gD w (k1++k2) (S1++S2)
 |[],k2,S1,S2,h1,h2=>by
  have h1:S1=[]:=h1;subst h1;exact h2
 |A::k1,k2,_,S2,⟨T1,T2,q1,q2,e⟩,h2=>⟨T1,T2++S2,q1,q2.app h2,by rw[e,gY]⟩
inductive ah{α:Type}(A:α):List α->List α->Prop
 |here {l:List α}:ah A (A::l) l
 |there {C:α} {l l':List α} (h:ah A l l'):ah A (C::l) (C::l')
inductive aL{α:Type}:List α->List α->List α->Prop
 |nil {l:List α}:aL [] l l
 |cons {A:α} {k l l' l'':List α} (h:ah A l l') (h2:aL k l' l''):aL (A::k) l l''
theorem ah.app{α:Type}{A:α}{l l':List α}(h:ah A l l'):∀k:List α,ah A (k++l) (k++l')
 |[]=>h
 |_::k=>.there (ah.app h k)
theorem aL.self{α:Type}:∀k r:List α,aL k (k++r) r
 |[],_=>.nil
 |_::k,r=>.cons .here (aL.self k r)
theorem aL.all{α:Type}(k:List α):aL k k []:=by
 have:=aL.self k []
 rwa [fJ]at this
theorem aL.there{α:Type}{k l l':List α}(A:α)(h:aL k l l'):aL k (A::l) (A::l'):=by
 induction h with
 |nil=>exact .nil
 |cons h1 _ ih=>exact .cons (.there h1) ih
theorem gD.eT{w:Wd}{A:OA}:∀{kl kl':List OA} {S:List Nat},ah A kl kl'->gD w kl S->∃S',gD w (A::kl') S'/\S.Perm S'
 |_,_,S,.here,h=>⟨S,h,.refl _⟩
 |_,_,_,.there s,⟨S1,S2,h1,h2,e⟩=>by
  obtain⟨S',⟨T1,T2,q1,q2,e'⟩,hp⟩:=gD.eT s h2;subst e e';refine⟨T1++(S1++T2),⟨T1,_,q1,⟨S1,T2,h1,q2,rfl⟩,rfl⟩,?_⟩;have:(S1++S2).Perm (S1++(T1++T2)):=hp.append_left S1;refine this.trans ?_;rw[<- gY,<- gY];exact List.Perm.append_right T2 List.perm_append_comm
theorem gD.jb{w:Wd}:∀{k kl kl':List OA} {S:List Nat},aL k kl kl'->gD w kl S->∃S1 S2,gD w k S1/\gD w kl' S2/\S.Perm (S1++S2)
 |_,_,_,S,.nil,h=>⟨[],S,rfl,h,.refl _⟩
 |_,_,_,S,.cons s r,h=>by
  obtain⟨S',⟨T1,T2,q1,q2,e⟩,hp⟩:=h.eT s;obtain⟨U1,U2,u1,u2,hu⟩:=gD.jb r q2;subst e;exact⟨T1++U1,U2,⟨T1,U1,q1,u1,rfl⟩,u2,hp.trans (by rw[gY];exact hu.append_left T1)⟩
inductive Sub{α:Type}:List α->List α->Prop
 |nil {l:List α}:Sub [] l
 |cons {a:α} {k l:List α} (h:a∈l) (h2:Sub k l):Sub (a::k) l
theorem Sub.mem{α:Type}:∀{k l:List α},Sub k l->∀x∈k,x∈l
 |_,_,.nil,x,hx=>by cases hx
 |_,_,.cons h h2,x,hx=>by
  cases hx with
  |head=>exact h
  |tail _ hx=>exact h2.mem x hx
structure XJ(B:List Nat)(h h':IH):Prop where
 next:h.next<=h'.next
 get:∀i,i<h.next->i∉B->h'.get i=h.get i
 low:h.low<=h.next->(∀b∈B,h.low<=b)->h'.low=h.low
structure St(B:List Nat)(w0:Wd)(kl:List OA)(F:List aB)(w:Wd):Prop where
 agree:XJ B w0.h w.h
 le:w0.Le w
 eG:∀i,i<w0.h.next->w.z i->w0.z i\/i∈B
 own:∃S,gD w kl S/\S.Nodup/\∀i∈S,(w0.h.next<=i\/i∈B)/\i<w.h.next/\¬w.z i
 facts:∀f∈F,f.p w
section
variable {B:List Nat} {w0 w:Wd} {kl:List OA} {F:List aB}
theorem St.jb{k kl':List OA}(s:aL k kl kl')(h:St B w0 kl F w):St B w0 (k++kl') F w:=by
 obtain⟨S,h1,h2,h3⟩:=h.own;obtain⟨S1,S2,q1,q2,hp⟩:=h1.jb s;exact⟨h.agree,h.le,h.eG,⟨S1++S2,q1.app q2,hp.nodup h2,λi hi=>h3 i (hp.mem_iff.2 hi)⟩,h.facts⟩
theorem St.eT{A:OA}{kl':List OA}(s:ah A kl kl')(h:St B w0 kl F w):St B w0 (A::kl') F w:=h.jb (.cons s .nil)
theorem St.drop{k kl':List OA}(h:St B w0 (k++kl') F w):St B w0 k F w:=by
 obtain⟨S,h1,h2,h3⟩:=h.own;have:∀{k:List OA} {S:List Nat},gD w (k++kl') S->∃S1 S2,gD w k S1/\S=S1++S2:=by
  intro k;induction k with
  |nil=>intro S hS;exact⟨[],S,rfl,rfl⟩
  |cons A k ih=>
   rintro S ⟨T1,T2,q1,q2,e⟩;obtain⟨S1,S2,u1,u2⟩:=ih q2;exact⟨T1++S1,S2,⟨T1,S1,q1,u1,rfl⟩,by rw[e,u2,gY]⟩
 obtain⟨S1,S2,q1,e⟩:=this h1;subst e;exact⟨h.agree,h.le,h.eG,⟨S1,q1,(qh.1 h2).1,λi hi=>h3 i (mD _ hi)⟩,h.facts⟩
theorem St.sub{F':List aB}(s:Sub F' F)(h:St B w0 kl F w):St B w0 kl F' w:=⟨h.agree,h.le,h.eG,h.own,λf hf=>h.facts f (s.mem f hf)⟩
theorem St.add{F':List aB}(h:St B w0 kl F w)(hf:∀f∈F',f.p w):St B w0 kl (F'++F) w:=
 ⟨h.agree,h.le,h.eG,h.own,λf h1=>(fI.1 h1).elim (hf f) (h.facts f)⟩
theorem St.get{b:Nat}{o:bQ}(h:St B w0 (pt b o::kl) F w):w.h.get b=some o/\b<w.h.next/\(w0.h.next<=b\/b∈B):=by
 obtain⟨S,⟨S1,S2,⟨e1,q1⟩,_,e⟩,h2,h3⟩:=h.own;have hb:b∈S:=by rw[e,e1];simp
 exact⟨q1,(h3 b hb).2.1,(h3 b hb).1⟩
theorem St.at_{b:Nat}{o:bQ}{kl':List OA}(s:ah (pt b o) kl kl')(h:St B w0 kl F w):At w.h b o:=⟨(h.eT s).get.2.1,(h.eT s).get.1⟩
noncomputable def Wd.new(w:Wd)(o:bQ):Wd:=⟨w.h.new o,w.z,λi hi=>Gi (w.gX i hi)⟩
theorem St.new(h:St B w0 kl F w)(o:bQ):St B w0 (pt w.h.next o::kl) F (w.new o):=by
 have hg:∀i,i<w.h.next->(w.h.new o).get i=w.h.get i:=λi hi=>by rw[IH.gu,if_neg (by omega)]
 have hle:w.Le (w.new o):=⟨uB _,λ_ h=>h,λi hi=>hg i (w.gX i hi)⟩
 obtain⟨S,h1,h2,h3⟩:=h.own;refine⟨⟨Nat.le_succ_of_le h.agree.next,λi hi hb=>(hg i (jy hi h.agree.next)).trans (h.agree.get i hi hb),λa b=>h.agree.low a b⟩,h.le.trans hle,h.eG,
  ⟨[w.h.next]++S,⟨[w.h.next],S,⟨rfl,by show(w.h.new o).get _=_;rw[IH.gu,if_pos rfl]⟩,gD.loc hle (λi hi=>hg i (h3 i hi).2.1) h1,rfl⟩,?_,?_⟩,λf hf=>f.mono hle (h.facts f hf)⟩
 ·refine zT.2 ⟨λhm=>?_,h2⟩;have:=(h3 _ hm).2.1;omega
 ·intro i hi;rcases fI.1 hi with hi|hi
  ·rw[cB.1 hi];exact⟨.inl h.agree.next,sJ _,λhz=>absurd (w.gX _ hz) (Nat.lt_irrefl _)⟩
  ·exact⟨(h3 i hi).1,Gi (h3 i hi).2.1,(h3 i hi).2.2⟩
theorem St.write{b:Nat}{o o':bQ}(h:St B w0 (pt b o::kl) F w):St B w0 (pt b o'::kl) F ⟨w.h.set b o',w.z,λi hi=>w.gX i hi⟩:=by
 obtain⟨S,⟨S1,S2,⟨e1,q1⟩,q2,e⟩,h2,h3⟩:=h.own;subst e e1;have hb:=h3 b (by simp);have hn:b∉S2:=λhm=>(zT.1 h2).1 hm;have hg:∀i,i≠b->(w.h.set b o').get i=w.h.get i:=λi hi=>by rw[IH.jM,if_neg hi]
 have hle:w.Le ⟨w.h.set b o',w.z,λi hi=>w.gX i hi⟩:=⟨aC _,λ_ h=>h,λi hi=>hg i (λe=>hb.2.2 (e▸hi))⟩
 refine⟨⟨h.agree.next,λi hi hB=>(hg i ?_).trans (h.agree.get i hi hB),λa c=>?_⟩,h.le.trans hle,h.eG,
  ⟨[b]++S2,⟨[b],S2,⟨rfl,by show(w.h.set b o').get b=_;rw[IH.jM,if_pos rfl]⟩,gD.loc hle (λi hi=>hg i (λe=>hn (e▸hi))) q2,rfl⟩,h2,h3⟩,λf hf=>f.mono hle (h.facts f hf)⟩
 ·rcases hb.1 with q|q
  ·omega
  ·intro e;exact hB (e▸q)
 ·have hl:=h.agree.low a c;show(w.h.set b o').low=_;rw[IH.C9,hl];rcases hb.1 with q|q
  ·omega
  ·have:=c b q;omega
theorem St.move{b:Nat}{o o':bQ}{h':IH}(h:St B w0 (pt b o::kl) F w)(m:uZ w.h h' b o'):∃w':Wd,w'.h=h'/\St B w0 (pt w.h.next o'::kl) F w'/\w.Le w':=by
 obtain⟨S,⟨S1,S2,⟨e1,q1⟩,q2,e⟩,h2,h3⟩:=h.own;subst e e1;have hb:=h3 b (by simp);have hn:b∉S2:=λhm=>(zT.1 h2).1 hm;let w':Wd:=⟨h',w.z,λi hi=>by rw[m.next];exact Gi (w.gX i hi)⟩
 have hle:w.Le w':=⟨by show _<=h'.next;rw[m.next];exact uB _,λ_ h=>h,λi hi=>m.get i (w.gX i hi) (λe=>hb.2.2 (e▸hi))⟩
 refine⟨w',rfl,⟨⟨by show _<=h'.next;rw[m.next];exact Nat.le_succ_of_le h.agree.next,λi hi hB=>(m.get i (jy hi h.agree.next) ?_).trans (h.agree.get i hi hB),λa c=>?_⟩,h.le.trans hle,h.eG,
  ⟨[w.h.next]++S2,⟨[w.h.next],S2,⟨rfl,m.at_.2⟩,gD.loc hle (λi hi=>m.get i (h3 i (by simp[hi])).2.1 (λe=>hn (e▸hi))) q2,rfl⟩,?_,?_⟩,λf hf=>f.mono hle (h.facts f hf)⟩,hle⟩
 ·rcases hb.1 with q|q
  ·omega
  ·intro e;exact hB (e▸q)
 ·have hl:=h.agree.low a c;rw[<- hl];refine m.low ?_;rw[hl];rcases hb.1 with q|q
  ·omega
  ·exact c b q
 ·refine zT.2 ⟨λhm=>?_,(zT.1 h2).2⟩;have:=(h3 _ (bW _ hm)).2.1;omega
 ·intro i hi;have hnx:w'.h.next=w.h.next+1:=m.next
  rcases fI.1 hi with hi|hi
  ·rw[cB.1 hi];exact⟨.inl h.agree.next,by omega,λhz=>absurd (w.gX _ hz) (Nat.lt_irrefl _)⟩
  ·have:=h3 i (by simp[hi]);exact⟨this.1,by omega,this.2.2⟩
theorem St.yR{A A':OA}(hA:∀w S,A.p w S->A'.p w S)(h:St B w0 (A::kl) F w):St B w0 (A'::kl) F w:=by
 obtain⟨S,⟨S1,S2,q1,q2,e⟩,h2,h3⟩:=h.own;exact⟨h.agree,h.le,h.eG,⟨S,⟨S1,S2,hA w S1 q1,q2,e⟩,h2,h3⟩,h.facts⟩
theorem St.nN{A A':OA}(h:St B w0 (A::kl) F w)(hA:∀S,A.p w S->A'.p w S):St B w0 (A'::kl) F w:=by
 obtain⟨S,⟨S1,S2,q1,q2,e⟩,h2,h3⟩:=h.own;exact⟨h.agree,h.le,h.eG,⟨S,⟨S1,S2,hA S1 q1,q2,e⟩,h2,h3⟩,h.facts⟩
theorem St.tail{A:OA}(h:St B w0 (A::kl) F w):St B w0 kl F w:=by
 obtain⟨S,⟨S1,S2,q1,q2,e⟩,h2,h3⟩:=h.own;subst e;exact⟨h.agree,h.le,h.eG,⟨S2,q2,(qh.1 h2).2.1,λi hi=>h3 i (nC _ hi)⟩,h.facts⟩
def vB(A:OA)(fs:List aB):Prop:=∀(w w':Wd) S,A.p w S->w.Le w'->w'.h=w.h->(∀i∈S,w'.z i)->∀f∈fs,f.p w'
theorem St.freeze{A:OA}{fs:List aB}(hA:vB A fs)(h:St B w0 (A::kl) F w):∃w',w'.h=w.h/\St B w0 kl (fs++F) w':=by
 obtain⟨S,⟨S1,S2,q1,q2,e⟩,h2,h3⟩:=h.own;subst e;let w':Wd:=⟨w.h,λi=>w.z i\/i∈S1,λi hi=>hi.elim (w.gX i) λhi=>(h3 i (mD _ hi)).2.1⟩
 have hle:w.Le w':=⟨aC _,λi hi=>.inl hi,λ_ _=>rfl⟩
 have hnd:=qh.1 h2;refine⟨w',rfl,h.agree,h.le.trans hle,λi hi hz=>?_,⟨S2,gD.loc hle (λ_ _=>rfl) q2,hnd.2.1,λi hi=>?_⟩,λf hf=>?_⟩
 ·rcases hz with hz|hz
  ·exact h.eG i hi hz
  ·rcases(h3 i (mD _ hz)).1 with q|q
   ·omega
   ·exact .inr q
 ·have:=h3 i (nC _ hi);refine⟨this.1,this.2.1,λhz=>hz.elim this.2.2 λhm=>?_⟩;exact hnd.2.2 i hm i hi rfl
 ·rcases fI.1 hf with hf|hf
  ·exact hA w w' S1 q1 hle rfl (λi hi=>.inr hi) f hf
  ·exact f.mono hle (h.facts f hf)
theorem wV{α:Type}{E:Enc α}{v:Value}{xs:List α}:vB (ap E v xs) [ae E v xs]:=by
 intro w w' S hp hle hh hz f hf;rw[cB.1 hf];rcases hp with⟨h1,h2,_⟩|⟨b,o,f,cells,h1,h2,h3,h4,h5,h6⟩
 ·exact .inl ⟨h1,none,0,h2,trivial⟩
 ·refine .inr ⟨b,o,f,_,cells,⟨h1,aC _,h2⟩,⟨hz b (by rw[h3];exact cB.2 rfl),.inl (by rw[hh];exact h4)⟩,λk x hk=>?_⟩;obtain⟨y,q1,q2⟩:=h6 k x hk;exact⟨y,q1,λf hf=>f.mono hle (q2 f hf)⟩
theorem fT{b:Nat}{cs:List Value}:vB (pt b (.cells cs)) [bU b 0 cs]:=by
 intro w w' S ⟨h1,h2⟩ hle hh hz f hf;rw[cB.1 hf];exact⟨cs,⟨hz b (by rw[h1];exact cB.2 rfl),.inl (by rw[hh];exact h2)⟩,λj u hj=>by rw[dB];exact hj⟩
theorem rW{b f c:Nat}{xs:List Int}(hc:xs.length<=c:=by first|exact aC _|omega)(hf:f=0\/f=1:=by first|exact .inl rfl|exact .inr rfl):vB (pt b (.cells (xs.map (.int .i64)))) [ae az (.slice (some ⟨b,0,some f⟩) xs.length c) xs]:=by
 intro w w' S ⟨h1,h2⟩ hle hh hz g hg;rw[cB.1 hg];refine .inr ⟨b,0,f,c,_,⟨rfl,hc,hf⟩,⟨hz b (by rw[h1];exact cB.2 rfl),.inl (by rw[hh];exact h2)⟩,λk x hk=>⟨(),λj u hj=>?_,λf hf=>by cases hf⟩⟩;match j,hj with
 |0,hj=>
  cases hj;simp[az,hk]
end
end Go.Ideal
namespace Go.Ideal
variable {P:Program}
def R(Q:IH->Prop)(B:List Nat)(w0:Wd)(kl:List OA)(F:List aB):Prop:=∀w,St B w0 kl F w->Q w.h
structure bK(G G':Prop):Prop where
 h:G'->G
theorem bK.refl(G:Prop):bK G G:=⟨id⟩
theorem bK.trans{A B C:Prop}(a:bK A B)(b:bK B C):bK A C:=⟨λc=>a.h (b.h c)⟩
theorem bK.all{X:Type}{A B:X->Prop}(h:∀x,bK (A x) (B x)):bK (∀x,A x) (∀x,B x):=⟨λb x=>(h x).h (b x)⟩
theorem bK.imp{p A B:Prop}(h:bK A B):bK (p->A) (p->B):=⟨λb x=>h.h (b x)⟩
def Pu(P:Program)(ρ:Operand->Value)(op:ai)(v:Value):Prop:=∀h,op.run P ρ h=some (v,h)
inductive EvL(ρ:Operand->Value):List Operand->List Value->Prop
 |nil:EvL ρ [] []
 |cons {x:Operand} {v:Value} {xs:List Operand} {vs:List Value} (h:ρ x=v) (t:EvL ρ xs vs):EvL ρ (x::xs) (v::vs)
theorem EvL.map{ρ:Operand->Value}:∀{xs:List Operand} {vs:List Value},EvL ρ xs vs->xs.map ρ=vs
 |_,_,.nil=>rfl
 |_,_,.cons h t=>by rw[lc,h,t.map]
section
variable {ρ:Operand->Value}
theorem DI{x:Operand}{v:Value}(hx:ρ x=v):Pu P ρ (.mv x) v:=λh=>by simp only[ai.run,hx]
theorem Bn{x:Operand}{v:Value}(hx:ρ x=v):Pu P ρ (.aX x) v:=λh=>by simp only[ai.run,hx]
theorem DJ{c x y:Operand}{v:Value}(hc:ρ c=.bool true)(hx:ρ x=v):Pu P ρ (.pick c x y) v:=λh=>by simp only[ai.run,hc,hx,cond]
theorem DK{c x y:Operand}{v:Value}(hc:ρ c=.bool false)(hx:ρ y=v):Pu P ρ (.pick c x y) v:=λh=>by simp only[ai.run,hc,hx,cond]
theorem DL{x:Operand}{b:Bool}(hx:ρ x=.bool b):Pu P ρ (.un .not x) (.bool !b):=λh=>by simp only[ai.run,hx];rfl
theorem Bo{x:Operand}{a:Option Addr}{m c:Nat}(hx:ρ x=.slice a m c):Pu P ρ (.iN x) (.int .i64 (m:Int)):=λh=>by simp only[ai.run,hx,Dx]
theorem DN{n:Nat}:Pu P ρ (.CR n) (.int .i64 (n:Int)):=λh=>rfl
theorem DR{x y:Operand}{t:TypeId}{a b:Int}(hx:ρ x=.int .i64 a)(hy:ρ y=.int .i64 b):Pu P ρ (.bin .lss t x y) (.bool (decide (a<b))):=λh=>by
 simp only[ai.run,hx,hy];rw[uY (v:=.bool (decide (a<b)))];simp[mF,nK,<- Int.not_le]
theorem DT{x y:Operand}{t:TypeId}{a b:Int}(hx:ρ x=.int .i64 a)(hy:ρ y=.int .i64 b):Pu P ρ (.bin .leq t x y) (.bool (decide (a<=b))):=λh=>by
 simp only[ai.run,hx,hy];rw[uY (v:=.bool (decide (a<=b)))];simp[mF,nK]
theorem DU{x y:Operand}{t:TypeId}{a b:Int}(hx:ρ x=.int .i64 a)(hy:ρ y=.int .i64 b):Pu P ρ (.bin .gtr t x y) (.bool (decide (b<a))):=λh=>by
 simp only[ai.run,hx,hy];rw[uY (v:=.bool (decide (b<a)))];simp[mF,nK,<- Int.not_le]
theorem DV{x y:Operand}{t:TypeId}{a b:Int}(hx:ρ x=.int .i64 a)(hy:ρ y=.int .i64 b):Pu P ρ (.bin .geq t x y) (.bool (decide (b<=a))):=λh=>by
 simp only[ai.run,hx,hy];rw[uY (v:=.bool (decide (b<=a)))];simp[mF,nK]
theorem DW{x y:Operand}{t:TypeId}{a b:Int}(hx:ρ x=.int .i64 a)(hy:ρ y=.int .i64 b):Pu P ρ (.bin .eql t x y) (.bool (decide (a=b))):=λh=>by
 simp only[ai.run,hx,hy];rw[uY (v:=.bool (decide (a=b)))];simp[mF,Av];rfl
theorem DX{x y:Operand}{t:TypeId}{a b:Int}(hx:ρ x=.int .i64 a)(hy:ρ y=.int .i64 b):Pu P ρ (.bin .neq t x y) (.bool (decide (a≠b))):=λh=>by
 simp only[ai.run,hx,hy];rw[uY (v:=.bool (decide (a≠b)))];simp[mF,Av];rfl
theorem DY{x y:Operand}{t:TypeId}{a b:Int}(hx:ρ x=.int .i64 a)(hy:ρ y=.int .i64 b)(h1: -9223372036854775808<=a+b)(h2:a+b<9223372036854775808):Pu P ρ (.bin .add t x y) (.int .i64 (a+b)):=λh=>by
 simp only[ai.run,hx,hy];rw[uY (v:=.int .i64 (a+b))];simp only[mF,Mh,NC h1 h2]
theorem DZ{x y:Operand}{t:TypeId}{a b:Int}(hx:ρ x=.int .i64 a)(hy:ρ y=.int .i64 b)(h1: -9223372036854775808<=a - b)(h2:a - b<9223372036854775808):Pu P ρ (.bin .sub t x y) (.int .i64 (a - b)):=λh=>by
 simp only[ai.run,hx,hy];rw[uY (v:=.int .i64 (a - b))];simp only[mF,Mi,NC h1 h2]
theorem D5{x:Operand}{i:Nat}{vs:List Value}{v:Value}(hx:ρ x=.tuple ⟨vs⟩)(hv:gH vs i=some v):Pu P ρ (.extract x i) v:=λh=>by simp only[ai.run,hx,hv]
theorem D6{x:Operand}{off b o:Nat}(hx:ρ x=.pointer (some ⟨b,o,none⟩)):Pu P ρ (.di off x) (.pointer (some ⟨b,o+off,none⟩)):=λh=>by simp only[ai.run,hx];rfl
theorem D7{t:TypeId}{off n:Nat}{x:Operand}{cs:List Value}{v:Value}(hx:ρ x=.agg ⟨cs⟩)(hv:gH cs off=some v):Pu P ρ (.field t off n false x) v:=λh=>by simp only[ai.run,hx,hv]
theorem D8{t:TypeId}{off n:Nat}{x:Operand}{cs r:List Value}(hx:ρ x=.agg ⟨cs⟩)(hv:gU (iE cs off) n=some r):Pu P ρ (.field t off n true x) (.agg ⟨r⟩):=λh=>by simp only[ai.run,hx,hv]
theorem D9{x:Operand}{t:TypeId}{v:Value}(hx:ρ x=v):Pu P ρ (.iface t x) (.iface t v):=λh=>by simp only[ai.run,hx]
theorem Ea{t:TypeId}{zero v:Value}{x:Operand}(hx:ρ x=.iface t v):Pu P ρ (.zZ t zero false x) v:=λh=>by
 simp only[ai.run,hx];show cond (Nat.beq t t) _ _=_;rw[uD];rfl
theorem XK{zero cs:List Value}{parts:List (Nat×Nat×Operand)}(hx:ol ρ zero parts=some cs):Pu P ρ (.build zero parts) (.agg ⟨cs⟩):=λh=>by simp only[ai.run,hx]
theorem Eb{x:Operand}{a:Addr}(hx:ρ x=.pointer (some a)):Pu P ρ (.CL x) (.pointer (some a)):=λh=>by simp only[ai.run,hx]
theorem Ec{x:Operand}{f:FuncId}{a b:Array Value}(hx:ρ x=.func (.func f) a b):Pu P ρ (.CL x) (.func (.func f) a b):=λh=>by simp only[ai.run,hx]
theorem XL{fn:Fn}{first captured:List Operand}{a b:List Value}(h1:EvL ρ first a)(h2:EvL ρ captured b):Pu P ρ (.zY fn first captured) (.func fn ⟨a⟩ ⟨b⟩):=λh=>by
 simp only[ai.run,qp,h1.map,h2.map]
theorem Bp{x i:Operand}{size b o m c:Nat}{f:Option Nat}{k:Int}{kk:IntKind}(hx:ρ x=.slice (some ⟨b,o,f⟩) m c)(hi:ρ i=.int kk k)(h0:0<=k)(h1:k<m):
 Pu P ρ (.fE size x i) (.pointer (some ⟨b,o+k.toNat*size,none⟩)):=λh=>by
 obtain⟨j,rfl⟩:=wB h0;simp only[ai.run,hx,hi];show cond (Nat.blt j m) _ _=_;rw[Dy (by omega)];rfl
theorem Ed{x i:Operand}{size b o m c k:Nat}{f:Option Nat}{kk:IntKind}(hx:ρ x=.slice (some ⟨b,o,f⟩) m c)(hi:ρ i=.int kk (.ofNat k))(h1:Nat.blt k m=true):
 Pu P ρ (.fE size x i) (.pointer (some ⟨b,o+k*size,none⟩)):=λh=>by
 simp only[ai.run,hx,hi,h1];rfl
theorem Ee{x i:Operand}{m size b o:Nat}{k:Int}{kk:IntKind}(hx:ρ x=.pointer (some ⟨b,o,none⟩))(hi:ρ i=.int kk k)(h0:0<=k)(h1:k<m):
 Pu P ρ (.CP m size x i) (.pointer (some ⟨b,o+k.toNat*size,none⟩)):=λh=>by
 obtain⟨j,rfl⟩:=wB h0;simp only[ai.run,hx,hi];show cond (Nat.blt j m) _ _=_;rw[Dy (by omega)];rfl
end
section
variable {B:List Nat} {w0:Wd} {kl kl':List OA} {F:List aB} {a:aI} {K:KO}
theorem XM{x y:bG}:bK (R (λh=>EV P (.seq x y) a h K) B w0 kl F) (R (λh=>EV P x a h (yO P y K)) B w0 kl F):=⟨λr w s=>Xe (r w s)⟩
theorem XN{id:Nat}{c:bG}:bK (R (λh=>EV P (.block id c) a h K) B w0 kl F) (R (λh=>EV P c a h (tJ id K)) B w0 kl F):=⟨λr w s=>Xf (r w s)⟩
theorem XO{ds:List Tmp}{l:List aP}:bK (R (λh=>EV P (.ops ds l) a h K) B w0 kl F) (R (λh=>ax P ds l a h K) B w0 kl F):=⟨λr w s=>.ops (r w s)⟩
theorem XP{c:bG}:bK (R (λh=>EV P (.scope c) a h K) B w0 kl F) (R (λh=>EV P c a h K) B w0 kl F):=⟨λr w s=>.scope (r w s)⟩
theorem XQ:bK (R (λh=>EV P .skip a h K) B w0 kl F) (R (λh=>K .normal a h) B w0 kl F):=⟨λr w s=>.skip (r w s)⟩
theorem XR{id:Nat}:bK (R (λh=>EV P (.exit id) a h K) B w0 kl F) (R (λh=>K (.exit id) a h) B w0 kl F):=⟨λr w s=>.exit (r w s)⟩
theorem XT:bK (R (λh=>EV P .ret a h K) B w0 kl F) (R (λh=>K .ret a h) B w0 kl F):=⟨λr w s=>.ret (r w s)⟩
theorem NS{ds:List Tmp}:bK (R (λh=>ax P ds [] a h K) B w0 kl F) (R (λh=>K .normal a h) B w0 kl F):=⟨λr w s=>.nil (r w s)⟩
variable {y:bG} {i j m0:Nat} {I:Nat->aI->IH->Prop} {ch:List PanicEntry}
theorem XU:bK (R (λh=>yO P y K .normal a h) B w0 kl F) (R (λh=>EV P y a h K) B w0 kl F):=⟨λr w s=>r w s⟩
theorem XV:bK (R (λh=>yO P y K .ret a h) B w0 kl F) (R (λh=>K .ret a h) B w0 kl F):=⟨λr w s=>r w s⟩
theorem XW:bK (R (λh=>yO P y K (.exit j) a h) B w0 kl F) (R (λh=>K (.exit j) a h) B w0 kl F):=⟨λr w s=>r w s⟩
theorem XX:bK (R (λh=>yO P y K (.panic ch) a h) B w0 kl F) (R (λh=>K (.panic ch) a h) B w0 kl F):=⟨λr w s=>r w s⟩
theorem XY:bK (R (λh=>tJ i K .normal a h) B w0 kl F) (R (λh=>K .normal a h) B w0 kl F):=⟨λr w s=>r w s⟩
theorem XZ:bK (R (λh=>tJ i K .ret a h) B w0 kl F) (R (λh=>K .ret a h) B w0 kl F):=⟨λr w s=>r w s⟩
theorem X0:bK (R (λh=>tJ i K (.panic ch) a h) B w0 kl F) (R (λh=>K (.panic ch) a h) B w0 kl F):=⟨λr w s=>r w s⟩
theorem X3(e:Nat.beq j i=true):bK (R (λh=>tJ i K (.exit j) a h) B w0 kl F) (R (λh=>K .normal a h) B w0 kl F):=⟨λr w s=>Xo e (r w s)⟩
theorem X4(e:Nat.beq j i=false):bK (R (λh=>tJ i K (.exit j) a h) B w0 kl F) (R (λh=>K (.exit j) a h) B w0 kl F):=⟨λr w s=>Xp e (r w s)⟩
theorem X5:bK (R (λh=>tK I m0 K .ret a h) B w0 kl F) (R (λh=>K .ret a h) B w0 kl F):=⟨λr w s=>r w s⟩
theorem X6:bK (R (λh=>tK I m0 K (.exit j) a h) B w0 kl F) (R (λh=>K (.exit j) a h) B w0 kl F):=⟨λr w s=>r w s⟩
theorem X7:bK (R (λh=>tK I m0 K (.panic ch) a h) B w0 kl F) (R (λh=>K (.panic ch) a h) B w0 kl F):=⟨λr w s=>r w s⟩
end
section
variable {B:List Nat} {w0:Wd} {kl kl':List OA} {F:List aB} {K:KO} {ds:List Tmp} {rest:List aP} {n:Nat} {l:List (Nat×Value)} {D:List Deferred} {pm:Option FrameMode} {ro:Option Nat} {d:Nat} {g:Option (Tmp×Bool)}
theorem X8{c:Operand}{x y:bG}(hc:ev l c=.bool true):bK (R (λh=>EV P (.cond c x y) (act n l D pm ro) h K) B w0 kl F) (R (λh=>EV P x (act n l D pm ro) h K) B w0 kl F):=
 ⟨λr w s=>Bf true hc (λ_=>r w s) (λe=>by cases e)⟩
theorem X9{c:Operand}{x y:bG}(hc:ev l c=.bool false):bK (R (λh=>EV P (.cond c x y) (act n l D pm ro) h K) B w0 kl F) (R (λh=>EV P y (act n l D pm ro) h K) B w0 kl F):=
 ⟨λr w s=>Bf false hc (λe=>by cases e) (λ_=>r w s)⟩
theorem aM{c:Operand}{x y:bG}{p:Prop}[Decidable p](hc:ev l c=.bool (decide p))(h1:p->R (λh=>EV P x (act n l D pm ro) h K) B w0 kl F)(h2:¬p->R (λh=>EV P y (act n l D pm ro) h K) B w0 kl F):
 R (λh=>EV P (.cond c x y) (act n l D pm ro) h K) B w0 kl F:=
 λw s=>Bf _ hc (λe=>h1 (sN e) w s) (λe=>h2 (Gj e) w s)
theorem NT{c:Operand}{x y:bG}{p:Prop}[Decidable p](hc:ev l c=.bool (!decide p))(h1:¬p->R (λh=>EV P x (act n l D pm ro) h K) B w0 kl F)(h2:p->R (λh=>EV P y (act n l D pm ro) h K) B w0 kl F):
 R (λh=>EV P (.cond c x y) (act n l D pm ro) h K) B w0 kl F:=
 λw s=>Bf _ hc (λe=>h1 (by simpa using e) w s) (λe=>h2 (by simpa using e) w s)
theorem jO{c:Operand}{x y:bG}{b:Bool}(hc:ev l c=.bool b)(h1:b=true->R (λh=>EV P x (act n l D pm ro) h K) B w0 kl F)(h2:b=false->R (λh=>EV P y (act n l D pm ro) h K) B w0 kl F):
 R (λh=>EV P (.cond c x y) (act n l D pm ro) h K) B w0 kl F:=
 λw s=>Bf _ hc (λe=>h1 e w s) (λe=>h2 e w s)
theorem Ya{op:ai}{re:List fq}(hn:Nat.blt d n=true)(hg:wT l g=true):bK (R (λh=>ax P ds (⟨⟨some d,g,op⟩,re⟩::rest) (act n l D pm ro) h K) B w0 kl F) (R (λh=>ax P ds rest (act n ((d,ql)::l) D pm ro) h K) B w0 kl F):=
 ⟨λr w s=>Xl hn hg (r w s)⟩
theorem bV{op:ai}{v:Value}(hn:Nat.blt d n=true)(hg:aZ l g=true)(hp:Pu P (ev l) op v):bK (R (λh=>ax P ds (⟨⟨some d,g,op⟩,[]⟩::rest) (act n l D pm ro) h K) B w0 kl F) (R (λh=>ax P ds rest (act n ((d,v)::l) D pm ro) h K) B w0 kl F):=
 ⟨λr w s=>iD hn hg (hp w.h) (r w s)⟩
theorem Yb{op:ai}{v:Value}(hn:Nat.blt d n=true)(hg:aZ l g=true)(hp:∀w,St B w0 kl F w->op.run P (ev l) w.h=some (v,w.h)):bK (R (λh=>ax P ds (⟨⟨some d,g,op⟩,[]⟩::rest) (act n l D pm ro) h K) B w0 kl F) (R (λh=>ax P ds rest (act n ((d,v)::l) D pm ro) h K) B w0 kl F):=
 ⟨λr w s=>iD hn hg (hp w s) (r w s)⟩
abbrev ptr'(b:Nat):Value:=.pointer (some ⟨b,0,none⟩)
theorem Yc{cs:List Value}{t:TypeId}(hn:Nat.blt d n=true)(hg:aZ l g=true):bK (R (λh=>ax P ds (⟨⟨some d,g,.new cs t⟩,[]⟩::rest) (act n l D pm ro) h K) B w0 kl F)
 (∀b,R (λh=>ax P ds rest (act n ((d,.pointer (some ⟨b,0,none⟩))::l) D pm ro) h K) B w0 (pt b (.cells cs)::kl) F):=
 ⟨λr w s=>iD hn hg (h':=w.h.new (.cells cs)) (by simp only[ai.run,ai.alloc,om]) (r w.h.next (w.new _) (s.new _))⟩
theorem Yd{x:Operand}{t:TypeId}{cs:List Value}(hn:Nat.blt d n=true)(hg:aZ l g=true)(hx:cellsOf (ev l x)=some cs):bK (R (λh=>ax P ds (⟨⟨some d,g,.box x t⟩,[]⟩::rest) (act n l D pm ro) h K) B w0 kl F)
 (∀b,R (λh=>ax P ds rest (act n ((d,.pointer (some ⟨b,0,none⟩))::l) D pm ro) h K) B w0 (pt b (.cells cs)::kl) F):=
 ⟨λr w s=>iD hn hg (h':=w.h.new (.cells cs)) (by simp only[ai.run,ai.alloc,om,hx]) (r w.h.next (w.new _) (s.new _))⟩
theorem Ye{t:TypeId}{len:Nat}{zero cs:List Value}{parts:List (Nat×Nat×Operand)}(hn:Nat.blt d n=true)(hg:aZ l g=true)(hx:ol (ev l) zero parts=some cs):
 bK (R (λh=>ax P ds (⟨⟨some d,g,.dV t len zero parts⟩,[]⟩::rest) (act n l D pm ro) h K) B w0 kl F)
 (∀b,R (λh=>ax P ds rest (act n ((d,.slice (some ⟨b,0,some 0⟩) len len)::l) D pm ro) h K) B w0 (pt b (.cells cs)::kl) F):=
 ⟨λr w s=>iD hn hg (h':=w.h.new (.cells cs)) (by simp only[ai.run,ai.alloc,om,hx,rO]) (r w.h.next (w.new _) (s.new _))⟩
theorem Yf{e:TypeId}{size bytes m:Nat}{zero:List Value}{x y:Operand}(hn:Nat.blt d n=true)(hg:aZ l g=true)(hx:ev l x=.int .i64 (m:Int))(hy:ev l y=.int .i64 (m:Int))
 (hm:m*bytes<=1073741824/\m*size<=1073741824/\m<=1073741824):bK (R (λh=>ax P ds (⟨⟨some d,g,.uH e size bytes zero x y⟩,[]⟩::rest) (act n l D pm ro) h K) B w0 kl F)
 (∀b,R (λh=>ax P ds rest (act n ((d,.slice (some ⟨b,0,some 0⟩) m m)::l) D pm ro) h K) B w0 (pt b (.cells (zeros zero m))::kl) F):=by
 refine⟨λr w s=>?_⟩;have hle:∀{a b:Nat},a<=b->Nat.ble a b=true:=λh=>by rw[mq];exact h
 refine iD hn hg (h':=w.h.new (.cells (zeros zero m))) ?_ (r w.h.next (w.new _) (s.new _));simp only[ai.run,ai.alloc,hx,hy];show om (cond (Nat.ble m m&&Nat.ble (m*bytes) small&&Nat.ble (m*size) small&&Nat.ble m small) _ _) w.h=_;rw[hle (aC m),hle (show m*bytes<=small from hm.1),hle (show m*size<=small from hm.2.1),hle (show m<=small from hm.2.2)];rfl
theorem Yg{x:Operand}{b o:Nat}{cs:List Value}{v:Value}(hn:Nat.blt d n=true)(hg:aZ l g=true)(hx:ev l x=.pointer (some ⟨b,o,none⟩))(hk:ah (pt b (.cells cs)) kl kl')(hv:gH cs o=some v):
 bK (R (λh=>ax P ds (⟨⟨some d,g,.aH x⟩,[]⟩::rest) (act n l D pm ro) h K) B w0 kl F) (R (λh=>ax P ds rest (act n ((d,v)::l) D pm ro) h K) B w0 kl F):=
 ⟨λr w s=>ND hn hg hx (s.at_ hk) (by rw[<- mH];exact hv) (r w s)⟩
theorem IY{x:Operand}{b o m:Nat}{cs c:List Value}(hn:Nat.blt d n=true)(hg:aZ l g=true)(hx:ev l x=.pointer (some ⟨b,o,none⟩))(hk:ah (pt b (.cells cs)) kl kl')(hv:gU (iE cs o) m=some c):
 bK (R (λh=>ax P ds (⟨⟨some d,g,.lS m x⟩,[]⟩::rest) (act n l D pm ro) h K) B w0 kl F) (R (λh=>ax P ds rest (act n ((d,.agg ⟨c⟩)::l) D pm ro) h K) B w0 kl F):=
 ⟨λr w s=>Xn hn hg hx (s.at_ hk) hv (r w s)⟩
theorem Ef{w:Wd}{b o j:Nat}{cs:List Value}{v:Value}(h:(bU b o cs).p w)(hv:gH cs j=some v):w.h.lm b (o+j)=some v:=by
 obtain⟨cells,h1,h2⟩:=h;rw[h1.cells.lm];exact h2 j v (by rw[<- mH];exact hv)
theorem Eg{w:Wd}{b o j m:Nat}{cs c:List Value}(h:(bU b o cs).p w)(hv:gU (iE cs j) m=some c):w.h.dL b (o+j) m=some c:=by
 obtain⟨cells,h1,h2⟩:=h;rw[h1.cells.dL];rw[jF,jE]at hv⊢;split at hv
 ·rename_i hm;cases hv;rw[iY]at hm;have key:∀i,i<m->cells[o+j+i]? =cs[j+i]?:=λi hi=>by
   have hlt:j+i<cs.length:=by omega
   rw[lQ,bH hlt];exact h2 (j+i) _ (bH hlt)
  have hlen:m=0\/o+j+m<=cells.length:=by
   rcases zO m with e|e
   ·exact .inl e
   ·right;have:=key (m - 1) (by omega);rw[bH (show j+(m - 1)<cs.length by omega)]at this;have:=(dU.1 this).1;omega
  rw[if_pos (by rw[iY];omega)];congr 1;apply jX;intro i;rw[qd,qd];by_cases hi:i<m
  ·rw[if_pos hi,if_pos hi,iV,iV];exact key i hi
  ·rw[if_neg hi,if_neg hi]
 ·cases hv
theorem Yh{x:Operand}{b o:Nat}{cs:List Value}{v:Value}(hn:Nat.blt d n=true)(hg:aZ l g=true)(hx:ev l x=.pointer (some ⟨b,o,none⟩))(hk:bU b o cs∈F)(hv:gH cs 0=some v):
 bK (R (λh=>ax P ds (⟨⟨some d,g,.aH x⟩,[]⟩::rest) (act n l D pm ro) h K) B w0 kl F) (R (λh=>ax P ds rest (act n ((d,v)::l) D pm ro) h K) B w0 kl F):=
 ⟨λr w s=>iD hn hg (by simp only[ai.run,hx,show w.h.lm b o=some v from Ef (j:=0) (s.facts _ hk) hv]) (r w s)⟩
theorem pM{x:Operand}{b o j:Nat}{cs:List Value}{v:Value}(hn:Nat.blt d n=true)(hg:aZ l g=true)(hx:ev l x=.pointer (some ⟨b,o+j,none⟩))(hk:bU b o cs∈F)(hv:gH cs j=some v):
 bK (R (λh=>ax P ds (⟨⟨some d,g,.aH x⟩,[]⟩::rest) (act n l D pm ro) h K) B w0 kl F) (R (λh=>ax P ds rest (act n ((d,v)::l) D pm ro) h K) B w0 kl F):=
 ⟨λr w s=>iD hn hg (by simp only[ai.run,hx,Ef (s.facts _ hk) hv]) (r w s)⟩
theorem Yi{x:Operand}{b o m:Nat}{cs c:List Value}(hn:Nat.blt d n=true)(hg:aZ l g=true)(hx:ev l x=.pointer (some ⟨b,o,none⟩))(hk:bU b o cs∈F)(hv:gU cs m=some c):
 bK (R (λh=>ax P ds (⟨⟨some d,g,.lS m x⟩,[]⟩::rest) (act n l D pm ro) h K) B w0 kl F) (R (λh=>ax P ds rest (act n ((d,.agg ⟨c⟩)::l) D pm ro) h K) B w0 kl F):=
 ⟨λr w s=>iD hn hg (by simp only[ai.run,hx,show w.h.dL b o m=some c from Eg (j:=0) (s.facts _ hk) (by rw[jE];exact hv)]) (r w s)⟩
theorem Yj{x:Operand}{b o j m:Nat}{cs c:List Value}(hn:Nat.blt d n=true)(hg:aZ l g=true)(hx:ev l x=.pointer (some ⟨b,o+j,none⟩))(hk:bU b o cs∈F)(hv:gU (iE cs j) m=some c):
 bK (R (λh=>ax P ds (⟨⟨some d,g,.lS m x⟩,[]⟩::rest) (act n l D pm ro) h K) B w0 kl F) (R (λh=>ax P ds rest (act n ((d,.agg ⟨c⟩)::l) D pm ro) h K) B w0 kl F):=
 ⟨λr w s=>iD hn hg (by simp only[ai.run,hx,Eg (s.facts _ hk) hv]) (r w s)⟩
theorem NU{x y:Operand}{b o m:Nat}{cs vs c:List Value}(hg:aZ l g=true)(hx:ev l x=.pointer (some ⟨b,o,none⟩))(hy:cellsOf (ev l y)=some vs)(hm:Nat.beq (fZ vs) m=true)
 (hk:ah (pt b (.cells cs)) kl kl') (hv:fV cs o vs=some c):
 bK (R (λh=>ax P ds (⟨⟨none,g,.store m x y⟩,[]⟩::rest) (act n l D pm ro) h K) B w0 kl F) (R (λh=>ax P ds rest (act n l D pm ro) h K) B w0 (pt b (.cells c)::kl') F):=
 ⟨λr w s=>IJ hg (v:=bN) (h':=w.h.set b (.cells c)) (by simp only[ai.run,hx,hy,hm];simp only[IH.storeAt,(s.at_ hk).2,hv];rfl) (r _ ((s.eT hk).write))⟩
theorem Yk{x y:Operand}{b o:Nat}{cs:List Value}{v:Value}(hg:aZ l g=true)(hx:ev l x=.pointer (some ⟨b,o,none⟩))(hy:ev l y=v)(hv:cellsOf v=some [v])
 (hk:ah (pt b (.cells cs)) kl kl') (ho:o<cs.length):
 bK (R (λh=>ax P ds (⟨⟨none,g,.store 1 x y⟩,[]⟩::rest) (act n l D pm ro) h K) B w0 kl F) (R (λh=>ax P ds rest (act n l D pm ro) h K) B w0 (pt b (.cells (cs.set o v))::kl') F):=
 ⟨λr w s=>IJ hg (v:=bN) (h':=w.h.set b (.cells (cs.set o v))) (by
  simp only[ai.run,hx,hy,hv];show cond (Nat.beq 1 1) _ _=_;simp only[IH.storeAt,(s.at_ hk).2,NE cs o v ho];rfl) (r _ ((s.eT hk).write))⟩
theorem Yl{x:Operand}{b o:Nat}{cs:List Value}{v:Value}(hn:Nat.blt d n=true)(hg:aZ l g=true)(hx:ev l x=.pointer (some ⟨b,o,none⟩))(hk:ah (pt b (.cells cs)) kl kl')(hv:cs[o]? =some v):
 bK (R (λh=>ax P ds (⟨⟨some d,g,.aH x⟩,[]⟩::rest) (act n l D pm ro) h K) B w0 kl F) (R (λh=>ax P ds rest (act n ((d,v)::l) D pm ro) h K) B w0 kl F):=
 ⟨λr w s=>ND hn hg hx (s.at_ hk) hv (r w s)⟩
theorem NV{α:Type}{E:Enc α}{v:Value}{xs:List α}{w:Wd}(h:(ae E v xs).p w):∃a c,v=.slice a xs.length c:=by
 rcases h with⟨rfl,a,c,rfl,_⟩|⟨i,o,f,c,cs,⟨h1,_⟩,_⟩
 ·exact⟨a,c,rfl⟩
 ·exact⟨_,c,h1⟩
theorem Ym{α:Type}{E:Enc α}{v:Value}{xs:List α}{w:Wd}(h:(ae E v xs).p w){k:Nat}(hk:k<xs.length):
 ∃i o f c x y,v=.slice (some ⟨i,o,f⟩) xs.length c/\xs[k]? =some x/\(bU i (o+k*E.n) (E.pat x y)).p w/\∀f∈E.fs x y,f.p w:=by
 rcases h with⟨rfl,a,c,rfl,_⟩|⟨i,o,f,c,cs,⟨h1,_⟩,h2,h3⟩
 ·simp at hk
 ·obtain⟨y,q1,q2⟩:=h3 k xs[k] (bH hk);exact⟨i,o,some f,c,xs[k],y,h1,bH hk,⟨cs,h2,q1⟩,q2⟩
theorem Yn{α:Type}{E:Enc α}{x:Operand}{v:Value}{xs:List α}(hn:Nat.blt d n=true)(hg:aZ l g=true)(hx:ev l x=v)(hf:ae E v xs∈F):
 bK (R (λh=>ax P ds (⟨⟨some d,g,.iN x⟩,[]⟩::rest) (act n l D pm ro) h K) B w0 kl F) (R (λh=>ax P ds rest (act n ((d,.int .i64 (xs.length:Int))::l) D pm ro) h K) B w0 kl F):=
 ⟨λr w s=>by
  obtain⟨a,c,e⟩:=NV (s.facts _ hf);exact NB hn hg (hx.trans e) (r w s)⟩
theorem NW{α:Type}{E:Enc α}{v:Value}{xs:List α}{w:Wd}{S:List Nat}(h:(ap E v xs).p w S):∃a,v=.slice a xs.length xs.length:=by
 rcases h with⟨rfl,rfl,_⟩|⟨b,o,f,cells,h1,_⟩
 ·exact⟨none,rfl⟩
 ·exact⟨_,h1⟩
theorem Yo{α:Type}{E:Enc α}{x:Operand}{v:Value}{xs:List α}(hn:Nat.blt d n=true)(hg:aZ l g=true)(hx:ev l x=v)(hk:ah (ap E v xs) kl kl'):
 bK (R (λh=>ax P ds (⟨⟨some d,g,.iN x⟩,[]⟩::rest) (act n l D pm ro) h K) B w0 kl F) (R (λh=>ax P ds rest (act n ((d,.int .i64 (xs.length:Int))::l) D pm ro) h K) B w0 kl F):=
 ⟨λr w s=>by
  obtain⟨S,⟨S1,S2,q,_⟩,_⟩:=(s.eT hk).own;obtain⟨a,e⟩:=NW q;exact NB hn hg (hx.trans e) (r w s)⟩
theorem IZ{α:Type}{E:Enc α}{x i:Operand}{v:Value}{xs:List α}{size:Nat}{k:Int}{kk:IntKind}(hn:Nat.blt d n=true)(hg:aZ l g=true)(hx:ev l x=v)(hi:ev l i=.int kk k)(hf:ae E v xs∈F)
 (hs:E.n=size) (h0:0<=k) (h1:k<xs.length):
 bK (R (λh=>ax P ds (⟨⟨some d,g,.fE size x i⟩,[]⟩::rest) (act n l D pm ro) h K) B w0 kl F)
  (∀b o z y,xs[k.toNat]? =some z->R (λh=>ax P ds rest (act n ((d,.pointer (some ⟨b,o,none⟩))::l) D pm ro) h K) B w0 kl (bU b o (E.pat z y)::(E.fs z y++F))):=by
 refine⟨λr w s=>?_⟩;obtain⟨b,o,f,c,z,y,rfl,h2,h3,h4⟩:=Ym (s.facts _ hf) (k:=k.toNat) (by omega);refine Xm hn hg hx hi h0 h1 (r b _ z y h2 w ?_);rw[<- hs];exact(s.add (F':=bU b (o+k.toNat*E.n) (E.pat z y)::E.fs z y) (λf hf=>by
  rcases bZ.1 hf with rfl|hf
  ·exact h3
  ·exact h4 f hf))
theorem NY{x i:Operand}{v:Value}{xs:List Int}{k:Int}{kk:IntKind}(hn:Nat.blt d n=true)(hg:aZ l g=true)(hx:ev l x=v)(hi:ev l i=.int kk k)(hf:ae az v xs∈F)(h0:0<=k)(h1:k<xs.length):
 bK (R (λh=>ax P ds (⟨⟨some d,g,.fE 1 x i⟩,[]⟩::rest) (act n l D pm ro) h K) B w0 kl F)
  (∀b o z,xs[k.toNat]? =some z->R (λh=>ax P ds rest (act n ((d,.pointer (some ⟨b,o,none⟩))::l) D pm ro) h K) B w0 kl (bU b o [.int .i64 z]::F)):=
 ⟨λr=>(IZ hn hg hx hi hf rfl h0 h1).h λb o z y hz=>r b o z hz⟩
theorem NZ{x i:Operand}{v:Value}{xs:List Bool}{k:Int}{kk:IntKind}(hn:Nat.blt d n=true)(hg:aZ l g=true)(hx:ev l x=v)(hi:ev l i=.int kk k)(hf:ae mO v xs∈F)(h0:0<=k)(h1:k<xs.length):
 bK (R (λh=>ax P ds (⟨⟨some d,g,.fE 1 x i⟩,[]⟩::rest) (act n l D pm ro) h K) B w0 kl F)
  (∀b o z,xs[k.toNat]? =some z->R (λh=>ax P ds rest (act n ((d,.pointer (some ⟨b,o,none⟩))::l) D pm ro) h K) B w0 kl (bU b o [.bool z]::F)):=
 ⟨λr=>(IZ hn hg hx hi hf rfl h0 h1).h λb o z y hz=>r b o z hz⟩
theorem wW{α:Type}(E:Enc α){Q:IH->Prop}(h:R Q B w0 (ap E (.slice none 0 0) []::kl) F):R Q B w0 kl F:=λw s=>by
 obtain⟨S,h1,h2,h3⟩:=s.own;exact h w ⟨s.agree,s.le,s.eG,⟨S,⟨[],S,.inl ⟨rfl,rfl,rfl⟩,h1,rfl⟩,h2,h3⟩,s.facts⟩
theorem Yp{α:Type}(E:Enc α){b:Nat}{Q:IH->Prop}(hk:ah (pt b (.cells [])) kl kl')(h:R Q B w0 (ap E (.slice (some ⟨b,0,some 0⟩) 0 0) []::kl') F):R Q B w0 kl F:=λw s=>
 h w ((s.eT hk).yR (A:=pt b (.cells [])) (A':=ap E (.slice (some ⟨b,0,some 0⟩) 0 0) []) λw S hp=>.inr ⟨b,0,0,[],rfl,.inl rfl,hp.1,hp.2,by simp,λk x hk=>by cases hk⟩)
theorem Yq{A:OA}{fs:List aB}{Q:IH->Prop}(hA:vB A fs)(hk:ah A kl kl')(h:R Q B w0 kl' (fs++F)):R Q B w0 kl F:=λw s=>by
 obtain⟨w',e,s'⟩:=(s.eT hk).freeze hA;rw[<- e];exact h w' s'
theorem _root_.Go.Ideal.St.fresh{w:Wd}{o:bQ}{h':IH}(s:St B w0 kl F w)(ag:Agree w.h h')(at_:At h' w.h.next o)(hn:h'.next=w.h.next+1):∃w':Wd,w'.h=h'/\St B w0 (pt w.h.next o::kl) F w':=by
 have hg:∀i,i<w.h.next->h'.get i=w.h.get i:=ag.get
 let w':Wd:=⟨h',w.z,λi hi=>by rw[hn];exact Gi (w.gX i hi)⟩
 have hle:w.Le w':=⟨by show _<=h'.next;omega,λ_ h=>h,λi hi=>hg i (w.gX i hi)⟩
 obtain⟨S,h1,h2,h3⟩:=s.own;have hnx:w'.h.next=w.h.next+1:=hn
 refine⟨w',rfl,⟨by have:=s.agree.next;omega,λi hi hb=>(hg i (jy hi s.agree.next)).trans (s.agree.get i hi hb),λa b=>?_⟩,s.le.trans hle,s.eG,
  ⟨[w.h.next]++S,⟨[w.h.next],S,⟨rfl,at_.2⟩,gD.loc hle (λi hi=>hg i (h3 i hi).2.1) h1,rfl⟩,?_,?_⟩,λf hf=>f.mono hle (s.facts f hf)⟩
 ·have hl:=s.agree.low a b;have:=s.agree.next
  show h'.low=_;rw[ag.low (by omega),hl]
 ·refine zT.2 ⟨λhm=>?_,h2⟩;have:=(h3 _ hm).2.1;omega
 ·intro i hi;rcases fI.1 hi with hi|hi
  ·rw[cB.1 hi];exact⟨.inl s.agree.next,by omega,λhz=>absurd (w.gX _ hz) (Nat.lt_irrefl _)⟩
  ·exact⟨(h3 i hi).1,by have:=(h3 i hi).2.1;omega,(h3 i hi).2.2⟩
theorem Yr{α:Type}{E:Enc α}{e:TypeId}{size bytes b':Nat}{s x:Operand}{v:Value}{xs:List α}{a:α}{y:E.Y}{cs:List Value}{k1 k2:List OA}(hn:Nat.blt d n=true)(hg:aZ l g=true)
 (hs:ev l s=v) (hx:ev l x=.slice (some ⟨b',0,some 0⟩) 1 1) (hk:ah (ap E v xs) kl k1) (hc:ah (pt b' (.cells cs)) k1 k2) (hp:cs=E.pat a y) (hF:Sub (E.fs a y) F) (hz:E.n=size)
 (hm:(xs.length+1)*bytes<=1073741824/\(xs.length+1)*size<=1073741824/\xs.length+1<=1073741824):
 bK (R (λh=>ax P ds (⟨⟨some d,g,.append e size bytes s x⟩,[]⟩::rest) (act n l D pm ro) h K) B w0 kl F)
  (∀v',R (λh=>ax P ds rest (act n ((d,v')::l) D pm ro) h K) B w0 (ap E v' (xs++[a])::k2) F):=by
 refine⟨λr w st=>?_⟩;subst hp hz;have hlen:=E.len a y;have st2:St B w0 (ap E v xs::pt b' (.cells (E.pat a y))::k2) F w:=st.jb (.cons hk (.cons hc .nil));have hat:At w.h b' (.cells (E.pat a y)):=st2.at_ (.there .here);have jP:St B w0 (ap E v xs::k2) F w:=(st2.eT (.there .here)).tail;have hfs:∀f∈E.fs a y,f.p w:=λf hf=>st.facts f (hF.mem f hf);have hread:w.h.dL b' 0 (1*E.n)=some (E.pat a y):=by
  rw[hat.c.dL,jE,jF,xV,qi,if_pos (by omega),<- hlen,iB]
 have hx1:jY (ev l x)=some (0+1):=by rw[hx];rfl
 have hx2:jC E.n (0+1) (ev l x) w.h=some (E.pat a y):=by rw[hx];exact hread
 -- what lies there afterwards
 have put:∀(w':Wd) (c:Nat) (f:Nat) (cells:List Value),cells.length=xs.length*E.n->(∀(k:Nat) z,xs[k]? =some z->∃y,(∀(j:Nat) u,(E.pat z y)[j]? =some u->cells[k*E.n+j]? =some u)/\∀f∈E.fs z y,f.p w')->(∀f∈E.fs a y,f.p w')->
  (f=0\/f=E.n)->∀S,(pt c (.cells (cells++E.pat a y))).p w' S->(ap E (.slice (some ⟨c,0,some f⟩) (xs.length+1) (xs.length+1)) (xs++[a])).p w' S:=by
  intro w' c f cells h1 h2 h3 h4 S hp;refine .inr ⟨c,0,f,_,by rw[dK];rfl,h4,hp.1,hp.2,by rw[dK,dK,h1,hlen,qj,lg,xV,dB],λk z hk=>?_⟩;by_cases hlt:k<xs.length
  ·rw[iW hlt]at hk;obtain⟨y',q1,q2⟩:=h2 k z hk;refine⟨y',λj u hj=>?_,q2⟩;rw[dB];have:=q1 j u hj;rw[iW (dU.1 this).1];exact this
  ·rw[lN (by omega)]at hk;have hk0:k=xs.length:=by
    have:=(dU.1 hk).1;simp at this;omega
   subst hk0;simp at hk;subst hk;refine⟨y,λj u hj=>?_,h3⟩;rw[dB,lN (by omega),h1,Nat.add_sub_cancel_left];exact hj
 obtain⟨S,⟨S1,S2,q,q2,e1⟩,hnd,hown⟩:=jP.own;rcases q with⟨rfl,rfl,rfl⟩|⟨b,o,f,cells,rfl,hf,rfl,hb,hcl,hel⟩
 ·refine NF (c:=0) hn hg hs hx1 hx2 (by simpa using hm) λh' ag mP hnx=>?_;obtain⟨w',rfl,dG⟩:=jP.tail.fresh ag mP hnx;refine r _ w' (dG.nN λS hp=>?_);have hle:∀f∈E.fs a y,f.p w':=λf hf=>dG.facts f (hF.mem f hf);exact put w' _ E.n [] (by simp) (λk z hk=>by cases hk) hle (.inr rfl) S hp
 ·have lJ:St B w0 (pt b (.cells cells)::k2) F w:=⟨jP.agree,jP.le,jP.eG,⟨S,⟨_,S2,⟨rfl,hb⟩,q2,e1⟩,hnd,hown⟩,jP.facts⟩
  have yS:At w.h b (.cells cells):=lJ.at_ .here;refine Bi (old:=cells.drop o) (xs:=E.pat a y) hn hg hs hx1 hx2 ?_ (hf.elim (λe=>.inl (by rw[e])) λe=>.inr (by rw[e])) hm λh' mv=>?_
  ·have hdl:(cells.drop o).length=xs.length*E.n:=by rw[iY];omega
   rw[yS.c.dL,jE,jF,if_pos (by omega),<- hdl,iB]
  obtain⟨w',rfl,dG,nO⟩:=lJ.move mv;refine r _ w' (dG.nN λS hp=>?_);have hle:∀f∈E.fs a y,f.p w':=λf hf=>dG.facts f (hF.mem f hf);refine put w' _ E.n (cells.drop o) (by rw[iY];omega) (λk z hk=>?_) hle (.inr rfl) S hp;obtain⟨y',u1,u2⟩:=hel k z hk;exact⟨y',λj u hj=>by rw[iV,<- lQ];exact u1 j u hj,λf hf=>f.mono nO (u2 f hf)⟩
end
end Go.Ideal
namespace Go.Ideal
variable {P:Program} {ρ:Operand->Value}
theorem qJ{t:TypeId}{d:TypeDesc}(ht:P.underlying t=some d):dh P (underlying t)=some d:=by
 unfold underlying;rw[gL];show(some P).bind _=_;simp only[Option.bind,ht];rfl
theorem yT{op:BinOp}{t:TypeId}{x y:Operand}{a b:Value}(ha:∀c,a≠.agg c)(hn:a≠.nilIface):dh P (eqGuard op t x y a b)=some ():=by
 cases a with
 |nilIface=>exact absurd rfl hn
 |agg c=>exact absurd rfl (ha c)
 |_=>cases op<;>rfl
theorem N7{t:TypeId}{x y:Operand}{a b:Bool}(ht:P.underlying t=some .bool):mG P .eql t x y (.bool a) (.bool b)=some (.bool (a==b))/\mG P .neq t x y (.bool a) (.bool b)=some (.bool (a !=b)):=by
 have he:dh P (Op.equal t (.bool a) (.bool b))=some (a==b):=by
  show dh P (Op.equalIn (9999+1) t (.bool a) (.bool b))=_;unfold Op.equalIn;rw[gL,qJ ht];rfl
 have h1:ji P (do eqGuard .eql t x y (.bool a) (.bool b);binOp .eql t (.bool a) (.bool b))=some (.bool (a==b)):=by
  unfold ji;rw[gL,yT (by intro c e;cases e) (by intro e;cases e)];simp only[iA,binOp];rw[gL,he];rfl
 have h2:ji P (do eqGuard .neq t x y (.bool a) (.bool b);binOp .neq t (.bool a) (.bool b))=some (.bool (a !=b)):=by
  unfold ji;rw[gL,yT (by intro c e;cases e) (by intro e;cases e)];simp only[iA,binOp];rw[gL,he];rfl
 exact⟨h1,h2⟩
theorem Eh{x y:Operand}{t:TypeId}{a b:Bool}(hx:ρ x=.bool a)(hy:ρ y=.bool b)(ht:P.underlying t=some .bool):Pu P ρ (.bin .eql t x y) (.bool (a==b)):=λh=>by
 simp only[ai.run,hx,hy,(N7 ht).1]
theorem Ei{x y:Operand}{t:TypeId}{a b:Bool}(hx:ρ x=.bool a)(hy:ρ y=.bool b)(ht:P.underlying t=some .bool):Pu P ρ (.bin .neq t x y) (.bool (a !=b)):=λh=>by
 simp only[ai.run,hx,hy,(N7 ht).2]
theorem I1{op:BinOp}{t:TypeId}{x y:Operand}{a b:ByteArray}{v:Value}(hv:dh P (Op.stringOp op a b)=some v)(hf:bE v=true):mG P op t x y (.string a) (.string b)=some v:=by
 have h1:ji P (do eqGuard op t x y (.string a) (.string b);binOp op t (.string a) (.string b))=some v:=by
  unfold ji;rw[gL,yT (by intro c e;cases e) (by intro e;cases e)];have hb:binOp op t (.string a) (.string b)=Op.stringOp op a b:=by cases op<;>rfl
  simp only[iA,hb,hv,hf,cond]
 exact h1
theorem Ej{x y:Operand}{t:TypeId}{a b:ByteArray}(hx:ρ x=.string a)(hy:ρ y=.string b):Pu P ρ (.bin .eql t x y) (.bool (a.toList==b.toList)):=λh=>by
 simp only[ai.run,hx,hy,I1 (op:=.eql) (v:=.bool (a.toList==b.toList)) rfl rfl]
theorem Em{x y:Operand}{t:TypeId}{a b:ByteArray}(hx:ρ x=.string a)(hy:ρ y=.string b):Pu P ρ (.bin .neq t x y) (.bool (!(a.toList==b.toList))):=λh=>by
 simp only[ai.run,hx,hy,I1 (op:=.neq) (v:=.bool (!(a.toList==b.toList))) rfl rfl]
theorem yU{op:BinOp}{t:TypeId}{x y:Operand}{a b:Int}{v:Value}(hq:mF op .i64 a b=none)(hv:dh P (binOp op t (.int .i64 a) (.int .i64 b))=some v)(hf:bE v=true):mG P op t x y (.int .i64 a) (.int .i64 b)=some v:=by
 have h1:ji P (do eqGuard op t x y (.int .i64 a) (.int .i64 b);binOp op t (.int .i64 a) (.int .i64 b))=some v:=by
  unfold ji;rw[gL,yT (by intro c e;cases e) (by intro e;cases e)];simp only[iA,hv,hf,cond]
 unfold mG;simp only[oV,cond,hq,bE,zS];exact h1
theorem wrap64{m:Int}(h1: -9223372036854775808<=m)(h2:m<9223372036854775808):IntKind.i64.wrap m=m:=IntWalk.i64_in m ⟨h1,by omega⟩
theorem Eo{x y:Operand}{t:TypeId}{a b:Int}(hx:ρ x=.int .i64 a)(hy:ρ y=.int .i64 b)(h1: -9223372036854775808<=a*b)(h2:a*b<9223372036854775808):Pu P ρ (.bin .mul t x y) (.int .i64 (a*b)):=λh=>by
 simp only[ai.run,hx,hy];rw[yU (op:=.mul) (v:=.int .i64 (a*b)) rfl (by
  show dh P (Op.intArith .mul .i64 a b)=_;show some (Value.int .i64 (IntKind.i64.wrap (a*b)))=_;rw[wrap64 h1 h2]) rfl]
theorem Ep{x y:Operand}{t:TypeId}{a b:Int}(hx:ρ x=.int .i64 a)(hy:ρ y=.int .i64 b)(hb:b≠0)(h1: -9223372036854775808<=a.tdiv b)(h2:a.tdiv b<9223372036854775808):Pu P ρ (.bin .quo t x y) (.int .i64 (a.tdiv b)):=λh=>by
 simp only[ai.run,hx,hy];rw[yU (op:=.quo) (v:=.int .i64 (a.tdiv b)) rfl (by
  show dh P (Op.intDiv .quo .i64 a b)=_;unfold Op.intDiv;rw[if_neg hb];show some (Value.int .i64 (IntKind.i64.wrap (a.tdiv b)))=_;rw[wrap64 h1 h2]) rfl]
theorem I4{x y:Operand}{t:TypeId}{a b:Int}(hx:ρ x=.int .i64 a)(hy:ρ y=.int .i64 b)(hb:b≠0):Pu P ρ (.bin .rem t x y) (.int .i64 (a.tmod b)):=λh=>by
 simp only[ai.run,hx,hy];rw[yU (op:=.rem) (v:=.int .i64 (a.tmod b)) rfl (by
  show dh P (Op.intDiv .rem .i64 a b)=_;unfold Op.intDiv;rw[if_neg hb];rfl) rfl]
theorem Er{x i:Operand}{size b o m c k:Nat}{f:Option Nat}{kk:IntKind}(hx:ρ x=.slice (some ⟨b,o,f⟩) m c)(hi:ρ i=.int kk (k:Int))(h1:k<m):
 Pu P ρ (.fE size x i) (.pointer (some ⟨b,o+k*size,none⟩)):=Bp (k:=(k:Int)) hx hi (by omega) (by omega)
end Go.Ideal
namespace Go.Ideal
variable {P:Program}
def Left{Y:Type}(B:List Nat)(w0:Wd)(val:Y->Value)(kl':Y->List OA)(fs:Y->List aB)(pr:Y->Prop):KR:=λr pm h'=>
 pm=none/\∃(w':Wd) (y:Y),w'.h=h'/\St B w0 (kl' y) (fs y) w'/\r=.ok (val y)/\pr y
def aT{Y:Type}(P:Program)(fn:Fn)(args cap:List Value)(kl:List OA)(F:List aB)(val:Y->Value)(kl':Y->List OA)(fs:Y->List aB)(pr:Y->Prop):Prop:=
 ∀(B:List Nat) (w:Wd),St B w kl F w->CALL P ⟨fn,args,cap,none⟩ w.h (Left B w val kl' fs pr)
def mQ:Nat->List Value->List (Nat×Value)->List (Nat×Value)
 |_,[],l=>l
 |i,v::vs,l=>mQ (i+1) vs ((i,v)::l)
theorem N8:∀(args:List Value) (i:Nat) (l:List (Nat×Value)),sP args i (fu l)=fu (mQ i args l)
 |[],i,l=>rfl
 |v::vs,i,l=>by
  show sP vs (i+1) (fu ((i,v)::l))=_;rw[N8 vs];rfl
theorem I5(n:Nat)(args:List Value)(pm:Option FrameMode):wI n args pm=act (oq n (fZ args)) (mQ 0 args []) [] pm none:=by
 show aI.mk _ (sP args 0 (fu [])) _ _ _=_;rw[N8];rfl
theorem Yt{Y:Type}{f:FuncId}{args cap:List Value}{kl:List OA}{F:List aB}{val:Y->Value}{kl':Y->List OA}{fs:Y->List aB}{pr:Y->Prop}(cf:dW)(hF:(oz P nJ oZ).F f=some cf)
 (hb:∀B w0,R (λh=>EV P cf.body (act (oq cf.ntmps (fZ (args++cap))) (mQ 0 (args++cap) []) [] none none) h (Bg cf (Left B w0 val kl' fs pr))) B w0 kl F):aT P (.func f) args cap kl F val kl' fs pr:=by
 intro B w s;obtain⟨fn,h1,h2⟩:=(Bd P nJ oZ (λf q h v h' hm=>by cases hm)).fn f cf hF;refine Xi fn h1 cf h2 ?_;rw[I5];exact hb B w w s
section
variable {B:List Nat} {w0:Wd} {kl kl' aW:List OA} {F:List aB} {K:KO} {ds:List Tmp} {rest:List aP} {n:Nat} {l:List (Nat×Value)} {D:List Deferred} {pm:Option FrameMode} {ro:Option Nat} {d:Nat} {g:Option (Tmp×Bool)}
theorem St.call{w w':Wd}{k1 k1' aW:List OA}{F1 F':List aB}{S1 S2:List Nat}(s:St B w0 kl F w)(hp:∃S:List Nat,S.Perm (S1++S2)/\S.Nodup/\∀i∈S,(w0.h.next<=i\/i∈B)/\i<w.h.next/\¬w.z i)
 (h2:gD w aW S2) (c:St S1 w k1' F' w'):St B w0 (k1'++aW) (F'++F) w':=by
 obtain⟨S,hperm,Yu,hall⟩:=hp;have hnd:=hperm.nodup Yu;have hall:∀i∈S1++S2,(w0.h.next<=i\/i∈B)/\i<w.h.next/\¬w.z i:=λi hi=>hall i (hperm.mem_iff.2 hi)
 have hd:=qh.1 hnd;obtain⟨S',c1,c2,c3⟩:=c.own;have hsame:∀i∈S2,w'.h.get i=w.h.get i:=λi hi=>c.agree.get i (hall i (nC _ hi)).2.1 (λhm=>hd.2.2 i hm i hi rfl);refine⟨⟨cO s.agree.next c.agree.next,λi hi hB=>?_,λa b=>?_⟩,s.le.trans c.le,λi hi hz=>?_,⟨S'++S2,c1.app (gD.loc c.le hsame h2),?_,?_⟩,λf hf=>?_⟩
 ·rw[<- s.agree.get i hi hB];refine c.agree.get i (jy hi s.agree.next) (λhm=>?_);rcases(hall i (mD _ hm)).1 with q|q
  ·omega
  ·exact hB q
 ·have hl:=s.agree.low a b;rw[c.agree.low (by rw[hl];exact cO a s.agree.next) (λi hi=>?_),hl];rw[hl];rcases(hall i (mD _ hi)).1 with q|q
  ·omega
  ·exact b i q
 ·rcases c.eG i (jy hi s.agree.next) hz with q|q
  ·exact s.eG i hi q
  ·rcases(hall i (mD _ q)).1 with u|u
   ·omega
   ·exact .inr u
 ·refine qh.2 ⟨c2,hd.2.1,λa ha b hb e=>?_⟩;subst e;rcases(c3 a ha).1 with q|q
  ·have:=(hall a (nC _ hb)).2.1;omega
  ·exact hd.2.2 a q a hb rfl
 ·intro i hi;rcases fI.1 hi with hi|hi
  ·refine⟨?_,(c3 i hi).2⟩;rcases(c3 i hi).1 with q|q
   ·exact .inl (cO s.agree.next q)
   ·exact(hall i (mD _ q)).1
  ·have q:=hall i (nC _ hi);refine⟨q.1,jy q.2.1 c.agree.next,λhz=>?_⟩;rcases c.eG i q.2.1 hz with u|u
   ·exact q.2.2 u
   ·exact hd.2.2 i u i hi rfl
 ·rcases fI.1 hf with hf|hf
  ·exact c.facts f hf
  ·exact f.mono c.le (s.facts f hf)
def Same(P:Program)(re:List fq)(ρ:Operand->Value)(l:List (Nat×Value))(B:List Nat)(w0:Wd)(kl:List OA)(F:List aB):Prop:=
 ∀w,St B w0 kl F w->∀r∈re,∃u h2,r.op.run P ρ w.h=some (u,h2)/\∀d',r.dst=some d'->lk l d'=u
theorem qK{ρ:Operand->Value}:Same P [] ρ l B w0 kl F:=λw s r hr=>by cases hr
theorem pO{re:List fq}{x:Operand}{b o:Nat}{cs:List Value}{v:Value}(hx:ev l x=.pointer (some ⟨b,o,none⟩))(hk:ah (pt b (.cells cs)) kl kl')(hv:gH cs o=some v)(hd:lk l d=v)
 (t:Same P re (ev l) l B w0 kl F):Same P (⟨some d,g,.aH x⟩::re) (ev l) l B w0 kl F:=λw s r hr=>by
 rcases bZ.1 hr with rfl|hr
 ·have hc:w.h.lm b o=some v:=by rw[(s.at_ hk).c.lm,<- mH];exact hv
  exact⟨v,w.h,by simp only[ai.run,hx,hc],λd' e=>by cases e;exact hd⟩
 ·exact t w s r hr
theorem yV{re:List fq}{x:Operand}{b o:Nat}{cs:List Value}{v:Value}(hx:ev l x=.pointer (some ⟨b,o,none⟩))(hk:bU b o cs∈F)(hv:gH cs 0=some v)(hd:lk l d=v)
 (t:Same P re (ev l) l B w0 kl F):Same P (⟨some d,g,.aH x⟩::re) (ev l) l B w0 kl F:=λw s r hr=>by
 rcases bZ.1 hr with rfl|hr
 ·exact⟨v,w.h,by simp only[ai.run,hx,show w.h.lm b o=some v from Ef (j:=0) (s.facts _ hk) hv],λd' e=>by cases e;exact hd⟩
 ·exact t w s r hr
theorem yX{re:List fq}{x:Operand}{b o j:Nat}{cs:List Value}{v:Value}(hx:ev l x=.pointer (some ⟨b,o+j,none⟩))(hk:bU b o cs∈F)(hv:gH cs j=some v)(hd:lk l d=v)
 (t:Same P re (ev l) l B w0 kl F):Same P (⟨some d,g,.aH x⟩::re) (ev l) l B w0 kl F:=λw s r hr=>by
 rcases bZ.1 hr with rfl|hr
 ·exact⟨v,w.h,by simp only[ai.run,hx,Ef (s.facts _ hk) hv],λd' e=>by cases e;exact hd⟩
 ·exact t w s r hr
theorem yY{re:List fq}{x:Operand}{b o m:Nat}{cs c:List Value}(hx:ev l x=.pointer (some ⟨b,o,none⟩))(hk:ah (pt b (.cells cs)) kl kl')(hv:gU (iE cs o) m=some c)(hd:lk l d=.agg ⟨c⟩)
 (t:Same P re (ev l) l B w0 kl F):Same P (⟨some d,g,.lS m x⟩::re) (ev l) l B w0 kl F:=λw s r hr=>by
 rcases bZ.1 hr with rfl|hr
 ·have hc:w.h.dL b o m=some c:=by rw[(s.at_ hk).c.dL];exact hv
  exact⟨.agg ⟨c⟩,w.h,by simp only[ai.run,hx,hc],λd' e=>by cases e;exact hd⟩
 ·exact t w s r hr
theorem yZ{re:List fq}{x:Operand}{b o m:Nat}{cs c:List Value}(hx:ev l x=.pointer (some ⟨b,o,none⟩))(hk:bU b o cs∈F)(hv:gU cs m=some c)(hd:lk l d=.agg ⟨c⟩)
 (t:Same P re (ev l) l B w0 kl F):Same P (⟨some d,g,.lS m x⟩::re) (ev l) l B w0 kl F:=λw s r hr=>by
 rcases bZ.1 hr with rfl|hr
 ·exact⟨.agg ⟨c⟩,w.h,by simp only[ai.run,hx,show w.h.dL b o m=some c from Eg (j:=0) (s.facts _ hk) (by rw[jE];exact hv)],λd' e=>by cases e;exact hd⟩
 ·exact t w s r hr
theorem y7{re:List fq}{x:Operand}{b o j m:Nat}{cs c:List Value}(hx:ev l x=.pointer (some ⟨b,o+j,none⟩))(hk:bU b o cs∈F)(hv:gU (iE cs j) m=some c)(hd:lk l d=.agg ⟨c⟩)
 (t:Same P re (ev l) l B w0 kl F):Same P (⟨some d,g,.lS m x⟩::re) (ev l) l B w0 kl F:=λw s r hr=>by
 rcases bZ.1 hr with rfl|hr
 ·exact⟨.agg ⟨c⟩,w.h,by simp only[ai.run,hx,Eg (s.facts _ hk) hv],λd' e=>by cases e;exact hd⟩
 ·exact t w s r hr
theorem N9{re:List fq}{op:ai}{v:Value}(hp:Pu P (ev l) op v)(hd:lk l d=v)(t:Same P re (ev l) l B w0 kl F):Same P (⟨some d,g,op⟩::re) (ev l) l B w0 kl F:=λw s r hr=>by
 rcases bZ.1 hr with rfl|hr
 ·exact⟨v,w.h,hp w.h,λd' e=>by cases e;exact hd⟩
 ·exact t w s r hr
theorem Yv{x y:Operand}{b o m:Nat}{cs vs c:List Value}{v:Value}{re:List fq}(hg:aZ l g=true)(hx:ev l x=.pointer (some ⟨b,o,none⟩))(hw:ev l y=v)(hy:cellsOf v=some vs)(hm:Nat.beq (fZ vs) m=true)
 (hk:ah (pt b (.cells cs)) kl kl') (hv:fV cs o vs=some c) (hs:Same P re (ev l) l B w0 (pt b (.cells c)::kl') F):
 bK (R (λh=>ax P ds (⟨⟨none,g,.store m x y⟩,re⟩::rest) (act n l D pm ro) h K) B w0 kl F) (R (λh=>ax P ds rest (act n l D pm ro) h K) B w0 (pt b (.cells c)::kl') F):=
 ⟨λr w s=>by
  subst hw;have s':=(s.eT hk).write (o':=.cells c);refine .iK (pJ hg) bN (w.h.set b (.cells c)) (by rw[jH];simp only[ai.run,hx,hy,hm];simp only[IH.storeAt,(s.at_ hk).2,hv];rfl) (λq hq _=>?_) (r _ s');obtain⟨u,h2,e1,e2⟩:=hs _ s' q hq;exact⟨u,h2,by show q.op.run P (act n l D pm ro).eval _=_;rw[jH];exact e1,λd' hd=>by rw[<- e2 d' hd];exact qI _ _⟩⟩
theorem Yw{op:ai}{v:Value}{re:List fq}(hn:Nat.blt d n=true)(hg:aZ l g=true)(hp:Pu P (ev l) op v)(hs:Same P re (ev ((d,v)::l)) ((d,v)::l) B w0 kl F):
 bK (R (λh=>ax P ds (⟨⟨some d,g,op⟩,re⟩::rest) (act n l D pm ro) h K) B w0 kl F) (R (λh=>ax P ds rest (act n ((d,v)::l) D pm ro) h K) B w0 kl F):=
 ⟨λr w s=>by
  refine .iK (pJ hg) v w.h (by rw[jH];exact hp w.h) (λq hq _=>?_) (by rw[lH hn];exact r w s);obtain⟨u,h2,e1,e2⟩:=hs w s q hq;rw[lH hn];exact⟨u,h2,by rw[jH];exact e1,λd' hd=>by rw[<- e2 d' hd];exact qI _ _⟩⟩
theorem Yx{Y:Type}{f:Operand}{xs:List Operand}{re:List fq}{fn:Fn}{first captured vs as:List Value}{k1:List OA}{F1:List aB}{val:Y->Value}{k1':Y->List OA}{fs:Y->List aB}{pr:Y->Prop}
 (hc:aT P fn as captured k1 F1 val k1' fs pr) (hn:Nat.blt d n=true) (hg:aZ l g=true) (hf:ev l f=.func fn ⟨first⟩ ⟨captured⟩) (hx:EvL (ev l) xs vs) (ha:first++vs=as)
 (hk:aL k1 kl aW) (hF:Sub F1 F)
 (hs:∀y,pr y->Same P re (ev ((d,val y)::l)) ((d,val y)::l) B w0 (k1' y++aW) (fs y++F))
 (next:∀y,pr y->R (λh=>ax P ds rest (act n ((d,val y)::l) D pm ro) h K) B w0 (k1' y++aW) (fs y++F)):
 R (λh=>ax P ds (⟨⟨some d,g,.call f xs⟩,re⟩::rest) (act n l D pm ro) h K) B w0 kl F:=by
 intro w s;obtain⟨S,h1,h2,h3⟩:=s.own;obtain⟨S1,S2,q1,q2,hp⟩:=h1.jb hk;have hsub:∀i∈S1,i∈S:=λi hi=>hp.mem_iff.2 (mD _ hi);have s1:St S1 w k1 F1 w:=⟨⟨aC _,λ_ _ _=>rfl,λ_ _=>rfl⟩,Wd.Le.refl w,λi _ hz=>.inl hz,⟨S1,q1,(qh.1 (hp.nodup h2)).1,λi hi=>⟨.inr hi,(h3 i (hsub i hi)).2⟩⟩,λf hf=>s.facts f (hF.mem f hf)⟩
 have hcall:=hc S1 w s1;subst ha;rw[<- hx.map]at hcall;have back:∀(w':Wd) (y:Y),St S1 w (k1' y) (fs y) w'->St B w0 (k1' y++aW) (fs y++F) w':=λw' y c=>s.call (k1:=k1) (F1:=F1) ⟨S,hp,h2,h3⟩ q2 c;refine s_call hn hg fn hf _ hcall ?_ ?_ ?_ ?_
 ·rintro v h' ⟨_,w',y,rfl,c,hv,hpr⟩;injection hv with hv;subst hv;exact hs y hpr w' (back w' y c)
 ·rintro v h' ⟨_,w',y,rfl,c,hv,hpr⟩;injection hv with hv;subst hv;exact next y hpr w' (back w' y c)
 ·rintro ch h' ⟨_,w',y,rfl,c,hv,hpr⟩;cases hv
 ·rintro r p h' ⟨e,_⟩;exact e
inductive RS(l:List (Nat×Value))(kl:List OA):List nG->List Value->Prop
 |nil:RS l kl [] []
 |tmp {t:Tmp} {rs:List nG} {v:Value} {vs:List Value} (h:lk l t=v) (r:RS l kl rs vs):RS l kl (.tmp t::rs) (v::vs)
 |cell1 {t:Tmp} {rs:List nG} {v:Value} {vs cs:List Value} {b o:Nat} {kl':List OA} (h:lk l t=.pointer (some ⟨b,o,none⟩)) (hk:ah (pt b (.cells cs)) kl kl') (hv:gH cs o=some v) (r:RS l kl rs vs):RS l kl (.cell1 t::rs) (v::vs)
 |wH {n:Nat} {t:Tmp} {rs:List nG} {vs cs c:List Value} {b o:Nat} {kl':List OA} (h:lk l t=.pointer (some ⟨b,o,none⟩)) (hk:ah (pt b (.cells cs)) kl kl') (hv:gU (iE cs o) n=some c) (r:RS l kl rs vs):
   RS l kl (.wH n t::rs) (.agg ⟨c⟩::vs)
theorem RS.all{w:Wd}(s:St B w0 kl F w):∀{rs:List nG} {vs:List Value},RS l kl rs vs->sQ (fu l) w.h rs=some vs
 |_,_,.nil=>rfl
 |_,_,.tmp (t:=t) (rs:=rs) (v:=v) (vs:=vs) h r=>by
  have ih:=RS.all s r;show(match oW (fu l) w.h (.tmp t),sQ (fu l) w.h rs with|some v,some vs=>some (v::vs)|_,_=>none)=_;rw[ih];simp only[oW,qI,h]
 |_,_,.cell1 (t:=t) (rs:=rs) (v:=v) (vs:=vs) h hk hv r=>by
  have ih:=RS.all s r;show(match oW (fu l) w.h (.cell1 t),sQ (fu l) w.h rs with|some v,some vs=>some (v::vs)|_,_=>none)=_;rw[ih];simp only[oW,qI,h,(s.at_ hk).2,hv]
 |_,_,.wH (n:=n) (t:=t) (rs:=rs) (vs:=vs) (c:=c) h hk hv r=>by
  have ih:=RS.all s r;show(match oW (fu l) w.h (.wH n t),sQ (fu l) w.h rs with|some v,some vs=>some (v::vs)|_,_=>none)=_;rw[ih];simp only[oW,qI,h,IH.rM,(s.at_ hk).2,hv]
def pQ(vs:List Value):Value:=
 match vs with
 |[v]=>v
 |vs=>.tuple ⟨vs⟩
theorem Yy{Y:Type}{o:Out}{cf:dW}{vs:List Value}{val:Y->Value}{k1:Y->List OA}{fs:Y->List aB}{pr:Y->Prop}(y:Y)(hr:RS l kl cf.results vs)(hv:pQ vs=val y)(hp:pr y)(hk:aL (k1 y) kl aW)(hF:Sub (fs y) F)
 (ho:o=.normal\/o=.ret):R (λh=>Bg cf (Left B w0 val k1 fs pr) o (act n l [] none ro) h) B w0 kl F:=by
 intro w s;have h1:nH cf.results (fu l) w.h=some (val y):=by
  unfold nH;rw[hr.all s];rw[<- hv];match vs with
  |[]=>rfl
  |[v]=>rfl
  |_::_::_=>rfl
 have h2:Left B w0 val k1 fs pr (.ok (val y)) none w.h:=⟨rfl,w,y,rfl,((s.jb hk).drop).sub hF,rfl,hp⟩
 rcases ho with rfl|rfl
 ·exact⟨val y,h1,rfl,h2⟩
 ·exact⟨val y,h1,rfl,h2⟩
inductive iQ{α:Type}(F0:List α):List α->Prop
 |here:iQ F0 F0
 |cons {a:α} {F:List α} (h:iQ F0 F):iQ F0 (a::F)
 |app {G F:List α} (h:iQ F0 F):iQ F0 (G++F)
theorem iQ.mem{α:Type}{F0:List α}:∀{F:List α},iQ F0 F->∀f∈F0,f∈F
 |_,.here,f,hf=>hf
 |_,.cons h,f,hf=>bW _ (h.mem f hf)
 |_,.app h,f,hf=>nC _ (h.mem f hf)
inductive tL:List (Nat×Value)->List (Nat×Value)->List (Nat×Value)->Prop
 |nil {ks:List (Nat×Value)}:tL [] ks []
 |drop {k:Nat} {v:Value} {l ks r:List (Nat×Value)} (h:(ks.any λp=>Nat.beq p.1 k)=true) (t:tL l ks r):tL ((k,v)::l) ks r
 |keep {k:Nat} {v:Value} {l ks r:List (Nat×Value)} (h:(ks.any λp=>Nat.beq p.1 k)=false) (t:tL l ((k,v)::ks) r):tL ((k,v)::l) ks ((k,v)::r)
def LI{X:Type}(n:Nat)(D:List Deferred)(pm:Option FrameMode)(ro:Option Nat)(B:List Nat)(w0:Wd)(m:X->Nat)(L:X->List (Nat×Value))(KL:X->List OA)(FF:X->List aB)(inv:X->Prop)
 (l0:List (Nat×Value)) (aW:List OA) (F0:List aB):Nat->aI->IH->Prop:=λr a h=>
 ∃(x:X) (w:Wd),r=m x/\a=act n (L x++l0) D pm ro/\w.h=h/\St B w0 (KL x++aW) (FF x++F0) w/\inv x
theorem Yz{X:Type}{c:bG}(m:X->Nat)(L:X->List (Nat×Value))(KL:X->List OA)(FF:X->List aB)(inv:X->Prop)(x0:X)(hi:inv x0)(l0:List (Nat×Value))(hl:sub (L x0++l0) l)(hk:aL (KL x0) kl aW)(hF:Sub (FF x0) F)
 (body:∀x,inv x->R (λh=>EV P c (act n (L x++l0) D pm ro) h (tK (LI n D pm ro B w0 m L KL FF inv l0 aW F) (m x) K)) B w0 (KL x++aW) (FF x++F)):
 R (λh=>EV P (.loop c) (act n l D pm ro) h K) B w0 kl F:=by
 intro w s;refine Xh (Nw hl) ?_;refine Xg (LI n D pm ro B w0 m L KL FF inv l0 aW F) ?_ (m x0) _ _ ⟨x0,w,rfl,rfl,rfl,(s.jb hk).add (λf hf=>s.facts f (hF.mem f hf)),hi⟩;rintro r a h ⟨x,w',rfl,rfl,rfl,s',hx⟩;exact body x hx w' s'
theorem YA{X:Type}{m:X->Nat}{L:X->List (Nat×Value)}{KL:X->List OA}{FF:X->List aB}{inv:X->Prop}{l0:List (Nat×Value)}{eu:List OA}{F0:List aB}{m0:Nat}(x:X)(hm:m x<m0)(hi:inv x)(hl:sub (L x++l0) l)
 (hk:aL (KL x++aW) kl eu) (hF:Sub (FF x) F) (wX:iQ F0 F):R (λh=>tK (LI n D pm ro B w0 m L KL FF inv l0 aW F0) m0 K .normal (act n l D pm ro) h) B w0 kl F:=by
 intro w s;refine Xq (m x) hm hl ⟨x,w,rfl,rfl,rfl,?_,hi⟩;have s':=(s.jb hk).drop;exact⟨s'.agree,s'.le,s'.eG,s'.own,λf hf=>(fI.1 hf).elim (λhf=>s.facts f (hF.mem f hf)) (λhf=>s.facts f (wX.mem f hf))⟩
end
