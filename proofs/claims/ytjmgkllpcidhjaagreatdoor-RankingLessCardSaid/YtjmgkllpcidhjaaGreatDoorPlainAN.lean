/-
  Places of results whose times lie in ranges: the search group by group finds each list of places that times lead to, once.
-/
import Init
set_option linter.all false
namespace Rk
def cnt(n:Nat)(p:Nat->Bool):Nat:=(List.range n).countP p
theorem wJ(n:Nat)(p:Nat->Bool):cnt (n+1) p=cnt n p+(if p n then 1 else 0):=by
 unfold cnt;rw[List.range_succ,List.countP_append,List.countP_singleton]
theorem Ry{n:Nat}{p q:Nat->Bool}(h:∀i,i<n->p i=q i):cnt n p=cnt n q:=by
 induction n with
 |zero=>rfl
 |succ n ih=>rw[wJ,wJ,ih λi hi=>h i (by omega),h n (by omega)]
theorem LD{n:Nat}{p:Nat->Bool}(h:∀i,i<n->p i=false):cnt n p=0:=by
 induction n with
 |zero=>rfl
 |succ n ih=>rw[wJ,ih λi hi=>h i (by omega),h n (by omega)];rfl
theorem Gg{n:Nat}{p q r:Nat->Bool}(h:∀i,i<n->r i=(p i||q i))(hd:∀i,i<n->p i=true->q i=false):cnt n r=cnt n p+cnt n q:=by
 induction n with
 |zero=>rfl
 |succ n ih=>
  rw[wJ,wJ,wJ,ih (λi hi=>h i (by omega)) (λi hi=>hd i (by omega)),h n (by omega)];have:=hd n (by omega);cases hp:p n<;>cases hq:q n
  ·simp
  ·simp;omega
  ·simp;omega
  ·rw[hp,hq]at this;simp at this
theorem LF{n:Nat}{p:Nat->Bool}{i:Nat}(hi:i<n)(h:p i=true):0<cnt n p:=by
 unfold cnt;exact List.countP_pos_iff.2 ⟨i,List.mem_range.2 hi,h⟩
theorem Gh{n:Nat}{p:Nat->Bool}(h:cnt n p=0):∀i,i<n->p i=false:=λi hi=>by
 cases hp:p i with
 |false=>rfl
 |true=>have:=LF hi hp;omega
theorem LG(n:Nat)(p:Nat->Bool):cnt n p<=n:=by
 unfold cnt;have:=List.countP_le_length (p:=p) (l:=List.range n)
 rwa [List.length_range]at this
def mask(p:Nat->Bool):Nat->Nat
 |0=>0
 |n+1=>(if p n then 2^n else 0)+mask p n
theorem LH(p:Nat->Bool):∀n,mask p n<2^n
 |0=>by simp[mask]
 |n+1=>by
  have:=LH p n;rw[mask,Nat.pow_succ];split<;>omega
theorem Rz(p:Nat->Bool):∀(n i:Nat),(mask p n).testBit i=(decide (i<n)&&p i)
 |0,i=>by simp[mask]
 |n+1,i=>by
  have ih:=Rz p n;have hlt:=LH p n;rw[mask];by_cases hp:p n=true
  ·rw[if_pos hp];rcases Nat.lt_trichotomy i n with h|h|h
   ·rw[Nat.testBit_two_pow_add_gt h,ih];simp[h,Nat.lt_succ_of_lt h]
   ·subst h;rw[Nat.testBit_two_pow_add_eq,Nat.testBit_lt_two_pow hlt];simp[hp]
   ·rw[Nat.testBit_lt_two_pow (Nat.lt_of_lt_of_le (show 2^n+mask p n<2^(n+1)by rw[Nat.pow_succ];omega) (Nat.pow_le_pow_right (by omega) h))];simp[show¬i<n+1 by omega]
  ·rw[if_neg hp,Nat.zero_add,ih];rcases Nat.lt_trichotomy i n with h|h|h
   ·simp[h,Nat.lt_succ_of_lt h]
   ·subst h;simp at hp;simp[hp]
   ·simp[show¬i<n+1 by omega,show¬i<n by omega]
theorem RA{n g g':Nat}(h1:g<2^n)(h2:g'<2^n)(h:∀i,i<n->g.testBit i=g'.testBit i):g=g':=by
 apply Nat.eq_of_testBit_eq;intro i;by_cases hi:i<n
 ·exact h i hi
 ·have hp:=Nat.pow_le_pow_right (n:=2) (by omega) (show n<=i by omega);rw[Nat.testBit_lt_two_pow (Nat.lt_of_lt_of_le h1 hp),Nat.testBit_lt_two_pow (Nat.lt_of_lt_of_le h2 hp)]
theorem RB{n g:Nat}(h0:0<g)(h1:g<2^n):∃i,i<n/\g.testBit i=true:=by
 by_cases h:∃i,i<n/\g.testBit i=true
 ·exact h
 ·exfalso
  have:g=0:=RA (n:=n) h1 (Nat.two_pow_pos n) λi hi=>by
   rw[Nat.zero_testBit];cases e:g.testBit i with
   |false=>rfl
   |true=>exact absurd ⟨i,hi,e⟩ h
  omega
abbrev kv:Int:=1048576
def lo(W:List (Int×Int))(i:Nat):Int:=(W.getD i (0,0)).1
def hi(W:List (Int×Int))(i:Nat):Int:=(W.getD i (0,0)).2
def iO(W:List (Int×Int))(fr:Int)(g:Nat):Nat->Int
 |0=>fr
 |i+1=>if g.testBit i then max (iO W fr g i) (lo W i)else iO W fr g i
def kQ(W:List (Int×Int))(g:Nat):Nat->Int
 |0=>kv
 |i+1=>if g.testBit i then min (kQ W g i) (hi W i)else kQ W g i
abbrev jk(W:List (Int×Int))(fr:Int)(g:Nat):Int:=iO W fr g W.length
abbrev LJ(W:List (Int×Int))(g:Nat):Int:=kQ W g W.length
abbrev eT(pl:List Int)(i:Nat):Bool:=decide (pl.getD i 0=0)
def clash(pl:List Int)(g n:Nat):Bool:=(List.range n).any λi=>g.testBit i&&!eT pl i
def mq(W:List (Int×Int))(pl:List Int)(fr:Int)(g:Nat):Bool:=!clash pl g W.length&&decide (jk W fr g<=LJ W g)
def late(W:List (Int×Int))(pl:List Int)(fr:Int)(g:Nat):Bool:=(List.range W.length).any λi=>!g.testBit i&&eT pl i&&decide (hi W i<=jk W fr g)
def gP(pl:List Int)(dn:Nat)(g:Nat):List Int:=pl.mapIdx λi x=>if g.testBit i then(dn:Int)+1 else x
def many(W:List (Int×Int))(g:Nat):Nat:=cnt W.length λi=>g.testBit i
def mW(W:List (Int×Int)):Nat->List Int->Int->Nat->List (List Int)
 |0,pl,_,_=>[pl]
 |f+1,pl,fr,dn=>if dn=W.length then[pl]else(List.range' 1 (2^W.length - 1)).flatMap λg=>
   if mq W pl fr g then(if late W pl fr g then[]else mW W f (gP pl dn g) (jk W fr g+1) (dn+many W g))else[]
structure Real(W:List (Int×Int))(pl:List Int)(fr:Int)(dn:Nat)(ps:List Int):Prop where
 len:ps.length=W.length
 old:∀i,i<W.length->eT pl i=false->ps.getD i 0=pl.getD i 0
 new:∃t:Nat->Int,∀i,i<W.length->eT pl i=true->fr<=t i/\lo W i<=t i/\t i<=hi W i/\ps.getD i 0=dn+1+cnt W.length λk=>eT pl k&&decide (t k<t i)
structure oN(W:List (Int×Int))(pl:List Int)(fr:Int)(dn:Nat):Prop where
 len:pl.length=W.length
 tot:cnt W.length (eT pl)+dn=W.length
 top:∀i,i<W.length->hi W i<=kv
theorem Gi{W:List (Int×Int)}{fr:Int}{g:Nat}:∀n,fr<=iO W fr g n
 |0=>Int.le_refl _
 |n+1=>by
  have:=Gi (W:=W) (fr:=fr) (g:=g) n;rw[iO];split<;>omega
theorem LK{W:List (Int×Int)}{fr:Int}{g:Nat}:∀{n i:Nat},i<n->g.testBit i=true->lo W i<=iO W fr g n
 |n+1,i,h,hb=>by
  rw[iO];by_cases e:i=n
  ·subst e;rw[if_pos hb];omega
  ·have:=LK (W:=W) (fr:=fr) (n:=n) (by omega) hb;split<;>omega
theorem RD{W:List (Int×Int)}{fr v:Int}{g:Nat}(h0:fr<=v):∀{n:Nat},(∀i,i<n->g.testBit i=true->lo W i<=v)->iO W fr g n<=v
 |0,_=>h0
 |n+1,h=>by
  have ih:=RD (W:=W) h0 (n:=n) λi hi=>h i (by omega);rw[iO];split
  ·have:=h n (by omega) (by assumption);omega
  ·exact ih
theorem RF{W:List (Int×Int)}{fr:Int}{g:Nat}:∀n,iO W fr g n=fr\/∃i,i<n/\g.testBit i=true/\iO W fr g n=lo W i
 |0=>.inl rfl
 |n+1=>by
  have ih:=RF (W:=W) (fr:=fr) (g:=g) n;rw[iO];split
  ·rename_i hb;by_cases h:iO W fr g n<=lo W n
   ·exact .inr ⟨n,by omega,hb,by omega⟩
   ·rw[show max (iO W fr g n) (lo W n)=iO W fr g n by omega];rcases ih with ih|⟨i,h1,h2,h3⟩
    ·exact .inl ih
    ·exact .inr ⟨i,by omega,h2,h3⟩
  ·rcases ih with ih|⟨i,h1,h2,h3⟩
   ·exact .inl ih
   ·exact .inr ⟨i,by omega,h2,h3⟩
theorem RG{W:List (Int×Int)}{g:Nat}:∀{n i:Nat},i<n->g.testBit i=true->kQ W g n<=hi W i
 |n+1,i,h,hb=>by
  rw[kQ];by_cases e:i=n
  ·subst e;rw[if_pos hb];omega
  ·have:=RG (W:=W) (n:=n) (by omega) hb;split<;>omega
theorem RH{W:List (Int×Int)}{v:Int}{g:Nat}(h0:v<=kv):∀{n:Nat},(∀i,i<n->g.testBit i=true->v<=hi W i)->v<=kQ W g n
 |0,_=>h0
 |n+1,h=>by
  have ih:=RH (W:=W) h0 (n:=n) λi hi=>h i (by omega);rw[kQ];split
  ·have:=h n (by omega) (by assumption);omega
  ·exact ih
theorem Ap{pl:List Int}{g n:Nat}:clash pl g n=false↔∀i,i<n->g.testBit i=true->eT pl i=true:=by
 unfold clash;rw[List.any_eq_false];constructor
 ·intro h i hi hb;have:=h i (List.mem_range.2 hi);rw[hb]at this;simpa using this
 ·intro h i hi;cases hb:g.testBit i with
  |false=>simp
  |true=>rw[h i (List.mem_range.1 hi) hb];simp
theorem acZ{W:List (Int×Int)}{pl:List Int}{fr:Int}{g:Nat}:late W pl fr g=false↔∀i,i<W.length->g.testBit i=false->eT pl i=true->jk W fr g<hi W i:=by
 unfold late;rw[List.any_eq_false];constructor
 ·intro h i hi hb hf;have:=h i (List.mem_range.2 hi);rw[hb,hf]at this;simp at this;exact this
 ·intro h i hi;cases hb:g.testBit i with
  |true=>simp
  |false=>
   cases hf:eT pl i with
   |false=>simp
   |true=>
    have:=h i (List.mem_range.1 hi) hb hf;simp;omega
theorem Aq{pl:List Int}{dn g i:Nat}(hi:i<pl.length):(gP pl dn g).getD i 0=if g.testBit i then(dn:Int)+1 else pl.getD i 0:=by
 unfold gP;rw[List.getD_eq_getElem?_getD,List.getElem?_mapIdx,List.getD_eq_getElem?_getD,List.getElem?_eq_getElem hi];rfl
theorem rV{pl:List Int}{dn g:Nat}:(gP pl dn g).length=pl.length:=by unfold gP;rw[List.length_mapIdx]
theorem nK{pl:List Int}{dn g i:Nat}(hi:i<pl.length):eT (gP pl dn g) i=(eT pl i&&!g.testBit i):=by
 show decide ((gP pl dn g).getD i 0=0)=_;rw[Aq hi];cases hb:g.testBit i with
 |true=>rw[if_pos rfl];simp;omega
 |false=>simp
section
variable {W:List (Int×Int)} {pl ps:List Int} {fr:Int} {dn g:Nat}
theorem oN.next(s:oN W pl fr dn)(hc:clash pl g W.length=false):oN W (gP pl dn g) (jk W fr g+1) (dn+many W g):=by
 have hc:=Ap.1 hc;refine⟨by rw[rV,s.len],?_,s.top⟩;have h1:cnt W.length (eT pl)=cnt W.length (eT (gP pl dn g))+many W g:=Gg (λi hi=>by
  rw[nK (by rw[s.len];exact hi)];cases hb:g.testBit i with
  |false=>simp
  |true=>rw[hc i hi hb];rfl) (λi hi h=>by
  rw[nK (by rw[s.len];exact hi)]at h;cases hb:g.testBit i with
  |false=>rfl
  |true=>rw[hb]at h;simp at h)
 have:=s.tot;omega
theorem yC(h0:0<g)(h1:g<2^W.length):0<many W g:=by
 obtain⟨i,hi,hb⟩:=RB h0 h1;exact LF hi hb
def wK(W:List (Int×Int))(pl:List Int)(fr:Int)(dn:Nat)(ps:List Int)(t:Nat->Int):Prop:=
 ∀i,i<W.length->eT pl i=true->fr<=t i/\lo W i<=t i/\t i<=hi W i/\ps.getD i 0=dn+1+cnt W.length λk=>eT pl k&&decide (t k<t i)
theorem wK.glue{t:Nat->Int}(s:oN W pl fr dn)(hok:mq W pl fr g=true)(r:Real W (gP pl dn g) (jk W fr g+1) (dn+many W g) ps)(ht:wK W (gP pl dn g) (jk W fr g+1) (dn+many W g) ps t):
 wK W pl fr dn ps λi=>if g.testBit i then jk W fr g else t i:=by
 unfold mq at hok;simp only[Bool.and_eq_true,Bool.not_eq_true',decide_eq_true_iff]at hok;have hc:=Ap.1 hok.1;have hin:∀i,i<W.length->g.testBit i=true->ps.getD i 0=dn+1:=λi hi hb=>by
  have:=r.old i hi (by rw[nK (by rw[s.len];exact hi),hb];simp);rw[this,Aq (by rw[s.len];exact hi),if_pos hb]
 intro i hi hf;cases hb:g.testBit i with
 |true=>
  simp only[hb,if_true];refine⟨Gi _,LK hi hb,Int.le_trans hok.2 (RG hi hb),?_⟩;rw[hin i hi hb,LD]
  ·simp
  ·intro k hk;cases LM:eT pl k with
   |false=>rfl
   |true=>
    cases hbk:g.testBit k with
    |true=>simp
    |false=>
     have:=ht k hk (by rw[nK (by rw[s.len];exact hk),LM,hbk];rfl);simp;omega
 |false=>
  obtain⟨a1,a2,a3,a4⟩:=ht i hi (by rw[nK (by rw[s.len];exact hi),hf,hb];rfl);simp only[hb,Bool.false_eq_true,if_false];have hfr:fr<=jk W fr g:=Gi _;refine⟨by omega,a2,a3,?_⟩;rw[a4];have h2:cnt W.length (λk=>eT pl k&&decide ((if g.testBit k=true then jk W fr g else t k)<t i))=many W g+cnt W.length λk=>eT (gP pl dn g) k&&decide (t k<t i):=by
   refine Gg (λk hk=>?_) (λk hk h=>?_)
   ·rw[nK (by rw[s.len];exact hk)];cases hbk:g.testBit k with
    |true=>rw[hc k hk hbk];simp;omega
    |false=>simp
   ·rw[nK (by rw[s.len];exact hk),h];simp
  rw[h2];omega
theorem Real.of_next(s:oN W pl fr dn)(hok:mq W pl fr g=true)(r:Real W (gP pl dn g) (jk W fr g+1) (dn+many W g) ps):Real W pl fr dn ps:=by
 obtain⟨t,ht⟩:=r.new;have hg:=wK.glue s hok r ht;unfold mq at hok;simp only[Bool.and_eq_true,Bool.not_eq_true',decide_eq_true_iff]at hok;have hc:=Ap.1 hok.1;refine⟨r.len,λi hi hf=>?_,_,hg⟩;have hb:g.testBit i=false:=by
  cases hb:g.testBit i with
  |false=>rfl
  |true=>rw[hc i hi hb]at hf;cases hf
 have:=r.old i hi (by rw[nK (by rw[s.len];exact hi),hf];rfl);rw[this,Aq (by rw[s.len];exact hi),hb];rfl
theorem exists_least(t:Nat->Int)(p:Nat->Bool):∀n,(∃i,i<n/\p i=true)->∃m,m<n/\p m=true/\∀i,i<n->p i=true->t m<=t i
 |0,⟨i,h,_⟩=>absurd h (Nat.not_lt_zero _)
 |n+1,h=>by
  by_cases he:∃i,i<n/\p i=true
  ·obtain⟨m,h1,h2,h3⟩:=exists_least t p n he;by_cases hn:p n=true/\t n<t m
   ·refine⟨n,by omega,hn.1,λi hi hp=>?_⟩;by_cases e:i=n
    ·subst e;exact Int.le_refl _
    ·have:=h3 i (by omega) hp;omega
   ·refine⟨m,by omega,h2,λi hi hp=>?_⟩;by_cases e:i=n
    ·subst e;by_cases h4:t i<t m
     ·exact absurd ⟨hp,h4⟩ hn
     ·omega
    ·exact h3 i (by omega) hp
  ·obtain⟨i,hi,hp⟩:=h;have e:i=n:=by
    by_cases e:i=n
    ·exact e
    ·exact absurd ⟨i,by omega,hp⟩ he
   subst e;refine⟨i,by omega,hp,λk hk hpk=>?_⟩;by_cases e:k=i
   ·subst e;exact Int.le_refl _
   ·exact absurd ⟨k,by omega,hpk⟩ he
theorem Real.next(s:oN W pl fr dn)(hdn:dn≠W.length)(r:Real W pl fr dn ps):∃g,0<g/\g<2^W.length/\mq W pl fr g=true/\late W pl fr g=false/\Real W (gP pl dn g) (jk W fr g+1) (dn+many W g) ps:=by
 obtain⟨t,ht⟩:=r.new;have hex:∃i,i<W.length/\eT pl i=true:=by
  by_cases h:∃i,i<W.length/\eT pl i=true
  ·exact h
  ·have h0:cnt W.length (eT pl)=0:=LD λi hi=>by
    cases e:eT pl i with
    |false=>rfl
    |true=>exact absurd ⟨i,hi,e⟩ h
   have:=s.tot;omega
 obtain⟨m,m1,m2,m3⟩:=exists_least t (eT pl) W.length hex;let p:Nat->Bool:=λi=>eT pl i&&decide (t i=t m)
 let g:=mask p W.length
 have hb:∀i,i<W.length->g.testBit i=p i:=λi hi=>by
  show(mask p W.length).testBit i=_;rw[Rz];simp[hi]
 have hbf:∀i,i<W.length->g.testBit i=true->eT pl i=true/\t i=t m:=λi hi h=>by
  rw[hb i hi]at h;simpa[p]using h
 have hgm:g.testBit m=true:=by rw[hb m m1];simp only[p,m2,decide_true,Bool.and_self]
 have h0:0<g:=by
  rcases Nat.eq_zero_or_pos g with h|h
  ·rw[h,Nat.zero_testBit]at hgm;cases hgm
  ·exact h
 obtain⟨t1,t2,t3,_⟩:=ht m m1 m2;have RI:jk W fr g<=t m:=RD t1 λi hi hbi=>by
  obtain⟨q1,q2⟩:=hbf i hi hbi;have:=(ht i hi q1).2.1;omega
 have ajh:t m<=LJ W g:=RH (by have:=s.top m m1;omega) λi hi hbi=>by
  obtain⟨q1,q2⟩:=hbf i hi hbi;have:=(ht i hi q1).2.2.1;omega
 have hc:clash pl g W.length=false:=Ap.2 λi hi hbi=>(hbf i hi hbi).1;have hlt:∀i,i<W.length->eT pl i=true->g.testBit i=false->t m<t i:=λi hi hf hbi=>by
  have h1:=m3 i hi hf;rw[hb i hi]at hbi;simp only[p,hf,Bool.true_and,decide_eq_false_iff_not]at hbi;omega
 refine⟨g,h0,LH _ _,?_,?_,?_⟩
 ·unfold mq;rw[hc];simp;omega
 ·refine acZ.2 λi hi hbi hf=>?_;have:=hlt i hi hf hbi;have:=(ht i hi hf).2.2.1;omega
 ·refine⟨r.len,λi hi hf=>?_,t,λi hi hf=>?_⟩
  ·rw[Aq (by rw[s.len];exact hi)];rw[nK (by rw[s.len];exact hi)]at hf;cases hbi:g.testBit i with
   |true=>
    obtain⟨q1,q2⟩:=hbf i hi hbi;rw[if_pos rfl,(ht i hi q1).2.2.2,LD]
    ·simp
    ·intro k hk;cases LM:eT pl k with
     |false=>rfl
     |true=>have:=m3 k hk LM;simp;omega
   |false=>
    rw[hbi]at hf;exact r.old i hi (by simpa using hf)
  ·rw[nK (by rw[s.len];exact hi)]at hf;simp only[Bool.and_eq_true,Bool.not_eq_true']at hf;obtain⟨q1,q2⟩:=hf;obtain⟨a1,a2,a3,a4⟩:=ht i hi q1;have:=hlt i hi q1 q2;refine⟨by omega,a2,a3,?_⟩;rw[a4];have h2:cnt W.length (λk=>eT pl k&&decide (t k<t i))=many W g+cnt W.length λk=>eT (gP pl dn g) k&&decide (t k<t i):=by
    refine Gg (λk hk=>?_) (λk hk h=>?_)
    ·rw[nK (by rw[s.len];exact hk)];cases hbk:g.testBit k with
     |true=>
      obtain⟨u1,u2⟩:=hbf k hk hbk;rw[u1,u2];simp;omega
     |false=>simp
    ·rw[nK (by rw[s.len];exact hk),h];simp
   rw[h2];omega
theorem Dl:∀(f:Nat) {pl:List Int} {fr:Int} {dn:Nat} {ps:List Int},oN W pl fr dn->W.length<=dn+f->(ps∈mW W f pl fr dn↔Real W pl fr dn ps):=by
 have hend:∀{pl:List Int} {fr:Int} {dn:Nat} {ps:List Int},oN W pl fr dn->dn=W.length->(ps∈[pl]↔Real W pl fr dn ps):=by
  intro pl fr dn ps s h;have h0:cnt W.length (eT pl)=0:=by have:=s.tot;omega
  rw[List.mem_singleton];constructor
  ·rintro rfl;exact⟨s.len,λ_ _ _=>rfl,λ_=>0,λi hi hf=>by rw[Gh h0 i hi]at hf;cases hf⟩
  ·intro r;apply List.ext_getElem (by rw[r.len,s.len]);intro i h1 h2;have:=r.old i (by rw[<- r.len];exact h1) (Gh h0 i (by rw[<- r.len];exact h1))
   rwa [List.getD_eq_getElem?_getD,List.getD_eq_getElem?_getD,List.getElem?_eq_getElem h1,List.getElem?_eq_getElem h2]at this
 intro f;induction f with
 |zero=>
  intro pl fr dn ps s hle;exact hend s (by have:=s.tot;omega)
 |succ f ih=>
  intro pl fr dn ps s hle;rw[mW];by_cases hd:dn=W.length
  ·rw[if_pos hd];exact hend s hd
  rw[if_neg hd,List.mem_flatMap];constructor
  ·rintro⟨g,hg,hm⟩;rw[List.mem_range'_1]at hg;have h1:g<2^W.length:=by have:=Nat.two_pow_pos W.length;omega
   split at hm
   ·rename_i hok;split at hm
    ·cases hm
    ·have hc:clash pl g W.length=false:=by
      unfold mq at hok;simp only[Bool.and_eq_true,Bool.not_eq_true']at hok;exact hok.1
     have:=yC (W:=W) (show 0<g by omega) h1;exact Real.of_next s hok ((ih (s.next hc) (by omega)).1 hm)
   ·cases hm
  ·intro r;obtain⟨g,h0,h1,h2,h3,h4⟩:=r.next s hd
   have hc:clash pl g W.length=false:=by
    unfold mq at h2;simp only[Bool.and_eq_true,Bool.not_eq_true']at h2;exact h2.1
   have:=yC (W:=W) h0 h1;refine⟨g,by rw[List.mem_range'_1];omega,?_⟩;rw[if_pos h2,if_neg (by rw[h3];simp)];exact(ih (s.next hc) (by omega)).2 h4
end
end Rk
namespace Rk
theorem wL{α:Type}[DecidableEq α]:∀{a b:List α},a.Nodup->(∀x∈a,x∈b)->a.length<=b.length
 |[],_,_,_=>Nat.zero_le _
 |x::a,b,hn,h=>by
  obtain⟨h1,h2⟩:=List.nodup_cons.1 hn;have hx:=h x (List.mem_cons_self ..);have:=wL (b:=b.erase x) h2 λy hy=>(List.mem_erase_of_ne (by rintro rfl;exact h1 hy)).2 (h y (List.mem_cons_of_mem _ hy));rw[List.length_erase_of_mem hx]at this;have:=List.length_pos_of_mem hx;rw[List.length_cons];omega
section
variable {W:List (Int×Int)} {pl ps:List Int} {fr:Int} {dn g:Nat}
theorem RJ(s:oN W pl fr dn)(hc:clash pl g W.length=false)(h0:0<many W g)(r:Real W (gP pl dn g) (jk W fr g+1) (dn+many W g) ps){i:Nat}(hi:i<W.length):g.testBit i=(eT pl i&&decide (ps.getD i 0=dn+1)):=by
 have hc:=Ap.1 hc;have hl:i<pl.length:=by rw[s.len];exact hi
 cases hb:g.testBit i with
 |true=>
  have:=r.old i hi (by rw[nK hl,hb];simp);rw[Aq hl,if_pos hb]at this;rw[hc i hi hb,decide_eq_true this];rfl
 |false=>
  cases hf:eT pl i with
  |false=>rfl
  |true=>
   obtain⟨t,ht⟩:=r.new;have:=(ht i hi (by rw[nK hl,hf,hb];rfl)).2.2.2;rw[Bool.true_and]
   symm
   refine decide_eq_false ?_;omega
theorem RN:∀(f:Nat) {pl:List Int} {fr:Int} {dn:Nat},oN W pl fr dn->W.length<=dn+f->(mW W f pl fr dn).Nodup
 |0,pl,fr,dn,_,_=>by rw[mW];simp
 |f+1,pl,fr,dn,s,hle=>by
  rw[mW];by_cases hd:dn=W.length
  ·rw[if_pos hd];simp
  rw[if_neg hd];have hcl:∀{g:Nat},mq W pl fr g=true->clash pl g W.length=false:=λhok=>by
   unfold mq at hok;simp only[Bool.and_eq_true,Bool.not_eq_true']at hok;exact hok.1
  have hgr:∀{g:Nat},g∈List.range' 1 (2^W.length - 1)->0<g/\g<2^W.length:=λhg=>by
   rw[List.mem_range'_1]at hg;have:=Nat.two_pow_pos W.length;omega
  refine List.pairwise_flatMap.2 ⟨λg hg=>?_,?_⟩
  ·obtain⟨g0,g1⟩:=hgr hg;split
   ·rename_i hok;split
    ·exact List.Pairwise.nil
    ·have:=yC (W:=W) g0 g1;exact RN f (s.next (hcl hok)) (by omega)
   ·exact List.Pairwise.nil
  ·refine List.Pairwise.imp_of_mem (R:=λa b:Nat=>a≠b) (λ{g g'} hg hg' hne x hx y hy he=>?_) (List.nodup_range' (s:=1) (n:=2^W.length - 1));subst he;obtain⟨g0,g1⟩:=hgr hg;obtain⟨g0',g1'⟩:=hgr hg';have hm:=yC (W:=W) g0 g1;have hm':=yC (W:=W) g0' g1';split at hx
   ·rename_i hok;split at hx
    ·cases hx
    ·split at hy
     ·rename_i hok';split at hy
      ·cases hy
      ·have r:=(Dl f (s.next (hcl hok)) (by omega)).1 hx;have r':=(Dl f (s.next (hcl hok')) (by omega)).1 hy;exact hne (RA g1 g1' λi hi=>by rw[RJ s (hcl hok) hm r hi,RJ s (hcl hok') hm' r' hi])
     ·cases hy
   ·cases hx
def Ar(m:Nat):Nat->List (List Int)
 |0=>[[]]
 |n+1=>(Ar m n).flatMap λv=>(List.range m).map λ(x:Nat)=>((x:Int)+1)::v
theorem RO(m:Nat):∀n,(Ar m n).length=m^n
 |0=>rfl
 |n+1=>by
  have ih:=RO m n;have:∀l:List (List Int),(l.flatMap λv=>(List.range m).map λ(x:Nat)=>((x:Int)+1)::v).length=l.length*m:=by
   intro l;induction l with
   |nil=>simp
   |cons v l ih=>rw[List.flatMap_cons,List.length_append,ih,List.length_map,List.length_range,List.length_cons,Nat.add_mul];omega
  rw[Ar,this,ih,Nat.pow_succ]
theorem RP{m:Nat}:∀{n:Nat} {v:List Int},v.length=n->(∀x∈v,1<=x/\x<=m)->v∈Ar m n
 |0,v,h,_=>by rw[List.length_eq_zero_iff.1 h];exact List.mem_singleton.2 rfl
 |n+1,[],h,_=>by cases h
 |n+1,x::v,h,hx=>by
  rw[Ar,List.mem_flatMap];refine⟨v,RP (by simpa using h) λy hy=>hx y (List.mem_cons_of_mem _ hy),?_⟩;have:=hx x (List.mem_cons_self ..);rw[List.mem_map];exact⟨(x - 1).toNat,List.mem_range.2 (by omega),by rw[show(((x - 1).toNat:Nat):Int)+1=x by omega]⟩
theorem cnt_lt{n i:Nat}{p:Nat->Bool}(hi:i<n)(h:p i=false):cnt n p<n:=by
 have h1:cnt n (λ_=>true)=cnt n p+cnt n (λk=>!p k):=Gg (λk _=>by simp) (λk _ h=>by simp[h]);have h2:cnt n (λk=>!p k)>0:=LF hi (by simp[h]);have h3:=LG n λ_=>true;omega
def oO(W:List (Int×Int)):List Int:=List.replicate W.length 0
theorem wM{i:Nat}:eT (oO W) i=true:=by
 unfold eT oO;rw[List.getD_eq_getElem?_getD,List.getElem?_replicate];split<;>simp
theorem Au(htop:∀i,i<W.length->hi W i<=kv)(fr:Int):oN W (oO W) fr 0:=by
 refine⟨by simp[oO],?_,htop⟩;have:∀n,cnt n (eT (oO W))=n:=by
  intro n;induction n with
  |zero=>rfl
  |succ n ih=>rw[wJ,ih,wM,if_pos rfl]
 rw[this];rfl
def jd(W:List (Int×Int)):List (List Int):=mW W W.length (oO W) 0 0
theorem Gj(htop:∀i,i<W.length->hi W i<=kv)(hn:W.length<=4):(jd W).length<=256:=by
 have h1:=wL (a:=jd W) (b:=Ar W.length W.length) (RN _ (Au htop 0) (by omega)) λps hps=>by
  have r:=(Dl _ (Au htop 0) (by omega)).1 hps;refine RP r.len λx hx=>?_;obtain⟨i,hi,he⟩:=List.mem_iff_getElem.1 hx;have hi':i<W.length:=by rw[<- r.len];exact hi
  obtain⟨t,ht⟩:=r.new;have h2:=(ht i hi' wM).2.2.2;rw[List.getD_eq_getElem?_getD,List.getElem?_eq_getElem hi,Option.getD_some,he]at h2;have:=cnt_lt (p:=λk=>eT (oO W) k&&decide (t k<t i)) hi' (by simp);omega
 rw[RO]at h1;have:W.length^W.length<=256:=by
  have h:W.length=0\/W.length=1\/W.length=2\/W.length=3\/W.length=4:=by omega
  rcases h with h|h|h|h|h<;>rw[h]<;>decide
 omega
def places(ts:List Int):List Int:=ts.map λa=>1+((ts.countP λb=>decide (b<a):Nat):Int)
theorem ac0{ts:List Int}(p:Int->Bool):cnt ts.length (λk=>p (ts.getD k 0))=ts.countP p:=by
 have h:(List.range ts.length).map (λk=>ts.getD k 0)=ts:=by
  apply List.ext_getElem (by simp);intro i h1 h2;rw[List.getElem_map,List.getElem_range,List.getD_eq_getElem?_getD,List.getElem?_eq_getElem h2];rfl
 have h2:=congrArg (List.countP p) h;rw[List.countP_map]at h2;exact h2
theorem RQ{ts:List Int}{i:Nat}(hi:i<ts.length):(places ts).getD i 0=1+cnt ts.length λk=>decide (ts.getD k 0<ts.getD i 0):=by
 unfold places;rw[List.getD_eq_getElem?_getD,List.getElem?_map,List.getElem?_eq_getElem hi,Option.map_some,Option.getD_some,ac0 (λb=>decide (b<ts.getD i 0)),List.getD_eq_getElem?_getD,List.getElem?_eq_getElem hi,Option.getD_some]
theorem yD{ts:List Int}:(places ts).length=ts.length:=by unfold places;rw[List.length_map]
def wN(W:List (Int×Int))(ts:List Int):Prop:=ts.length=W.length/\∀i,i<W.length->lo W i<=ts.getD i 0/\ts.getD i 0<=hi W i
theorem RU{a b:List Int}(hl:a.length=b.length)(h:∀i,i<a.length->a.getD i 0=b.getD i 0):a=b:=by
 apply List.ext_getElem hl;intro i h1 h2;have:=h i h1
 rwa [List.getD_eq_getElem?_getD,List.getD_eq_getElem?_getD,List.getElem?_eq_getElem h1,List.getElem?_eq_getElem h2]at this
theorem RV{t:Nat->Int}(hl:ps.length=W.length)(ht:wK W (oO W) fr 0 ps t):wN W ((List.range W.length).map t)/\ps=places ((List.range W.length).map t):=by
 have hlen:((List.range W.length).map t).length=W.length:=by simp
 have hg:∀i,i<W.length->((List.range W.length).map t).getD i 0=t i:=λi hi=>by
  rw[List.getD_eq_getElem?_getD,List.getElem?_map,List.getElem?_range hi];rfl
 refine⟨⟨hlen,λi hi=>?_⟩,?_⟩
 ·rw[hg i hi];have:=ht i hi wM;omega
 ·refine RU (by rw[yD,hl,hlen]) λi hi=>?_;have hi:i<W.length:=by rw[<- hl];exact hi
  rw[RQ (by rw[hlen];exact hi),(ht i hi wM).2.2.2,hlen,hg i hi];rw[Ry (q:=λk=>decide (((List.range W.length).map t).getD k 0<t i)) λk hk=>by rw[hg k hk,wM];rfl];simp
theorem RX(h0:∀i,i<W.length->0<=lo W i):Real W (oO W) 0 0 ps↔∃ts,wN W ts/\ps=places ts:=by
 constructor
 ·intro r;obtain⟨t,ht⟩:=r.new;exact⟨_,RV r.len ht⟩
 ·rintro⟨ts,⟨h1,h2⟩,rfl⟩;refine⟨by rw[yD,h1],(λi hi hf=>by rw[wM]at hf;cases hf),λi=>ts.getD i 0,λi hi hf=>?_⟩;have:=h0 i hi;obtain⟨q1,q2⟩:=h2 i hi;dsimp only;refine⟨by omega,q1,q2,?_⟩;rw[RQ (by rw[h1];exact hi),h1];rw[Ry (p:=λk=>eT (oO W) k&&decide (ts.getD k 0<ts.getD i 0)) (q:=λk=>decide (ts.getD k 0<ts.getD i 0)) λk hk=>by rw[wM];rfl];simp
theorem yE(htop:∀i,i<W.length->hi W i<=kv)(h0:∀i,i<W.length->0<=lo W i):ps∈jd W↔∃ts,wN W ts/\ps=places ts:=
 (Dl _ (Au htop 0) (by omega)).trans (RX h0)
def Gl(W:List (Int×Int))(x:Int):Prop:=∃k d,k<W.length/\d<W.length/\x=lo W k+(d:Int)
theorem ac1(h0:∀i,i<W.length->0<=lo W i):∀(f:Nat) {pl:List Int} {fr:Int} {dn:Nat} {ps:List Int},oN W pl fr dn->W.length<=dn+f->(fr=0\/∃k e,k<W.length/\e<=dn/\fr=lo W k+(e:Int))->Real W pl fr dn ps->
 ∃t,wK W pl fr dn ps t/\∀i,i<W.length->eT pl i=true->Gl W (t i):=by
 have hend:∀{pl:List Int} {fr:Int} {dn:Nat} {ps:List Int},oN W pl fr dn->dn=W.length->∃t,wK W pl fr dn ps t/\∀i,i<W.length->eT pl i=true->Gl W (t i):=by
  intro pl fr dn ps s h;have h0:cnt W.length (eT pl)=0:=by have:=s.tot;omega
  exact⟨λ_=>0,λi hi hf=>by(rw[Gh h0 i hi]at hf;cases hf),λi hi hf=>by(rw[Gh h0 i hi]at hf;cases hf)⟩
 intro f;induction f with
 |zero=>
  intro pl fr dn ps s hle _ _;exact hend s (by have:=s.tot;omega)
 |succ f ih=>
  intro pl fr dn ps s hle hb r;by_cases hd:dn=W.length
  ·exact hend s hd
  have hdn:dn<W.length:=by have:=s.tot;omega
  obtain⟨g,g0,g1,g2,g3,g4⟩:=r.next s hd
  have hc:clash pl g W.length=false:=by
   unfold mq at g2;simp only[Bool.and_eq_true,Bool.not_eq_true']at g2;exact g2.1
  have hm:=yC (W:=W) g0 g1;have RI:∃k e,k<W.length/\e<=dn/\jk W fr g=lo W k+(e:Int):=by
   rcases RF (W:=W) (fr:=fr) (g:=g) W.length with h|⟨i,h1,h2,h3⟩
   ·rcases hb with rfl|⟨k,e,h1,h2,h3⟩
    ·obtain⟨i,hi,hbi⟩:=RB g0 g1;have h1:=LK (W:=W) (fr:=0) hi hbi;have h2:=h0 i hi;exact⟨i,0,hi,Nat.zero_le _,by show iO W 0 g W.length=_;omega⟩
    ·exact⟨k,e,h1,h2,h.trans h3⟩
   ·exact⟨i,0,h1,Nat.zero_le _,by rw[show jk W fr g=lo W i from h3];simp⟩
  obtain⟨k,e,k1,k2,k3⟩:=RI;obtain⟨t,t1,t2⟩:=ih (s.next hc) (by omega) (.inr ⟨k,e+1,k1,by omega,by rw[k3];omega⟩) g4;refine⟨_,wK.glue s g2 g4 t1,λi hi hf=>?_⟩;cases hbi:g.testBit i with
  |true=>exact⟨k,e,k1,by omega,by simp only[if_true,k3]⟩
  |false=>
   have:=t2 i hi (by rw[nK (by rw[s.len];exact hi),hf,hbi];rfl);simpa only[hbi,Bool.false_eq_true,if_false]using this
theorem ac2(htop:∀i,i<W.length->hi W i<=kv)(h0:∀i,i<W.length->0<=lo W i){ts:List Int}(h:wN W ts):∃us,wN W us/\places us=places ts/\∀i,i<W.length->Gl W (us.getD i 0):=by
 have r:=(RX h0).2 ⟨ts,h,rfl⟩;obtain⟨t,h1,h2⟩:=ac1 h0 W.length (Au htop 0) (by omega) (.inl rfl) r;obtain⟨q1,q2⟩:=RV r.len h1;refine⟨_,q1,q2.symm,λi hi=>?_⟩;rw[List.getD_eq_getElem?_getD,List.getElem?_map,List.getElem?_range hi];exact h2 i hi wM
end
end Rk
namespace Rk
structure eD where
 op:Int
 n:Int
def dm(fl:List Bool)(w:eD):Option (List Bool):=
 if w.op=1 then(if 0<=w.n/\w.n<=1048576 then some (fl++[false])else none)
 else if w.op=2 then(if 0<=w.n/\w.n<5 then some (fl++[false])else none)
 else if w.n≠0 then none
 else if w.op=10 then(if 3<=fl.length/\fl[fl.length - 3]? =some true/\fl[fl.length - 2]? =some false/\fl[fl.length - 1]? =some false then some (fl.take (fl.length - 3)++[false])else none)
 else if 3<=w.op/\w.op<10 then(if 2<=fl.length/\fl[fl.length - 2]? =some false/\fl[fl.length - 1]? =some false then some (fl.take (fl.length - 2)++[decide (w.op=9)])else none)
 else none
def kR(ws:List eD):Option (List Bool):=ws.foldl (λo w=>o.bind λfl=>dm fl w) (some [])
theorem Gm(ws:List eD)(w:eD):kR (ws++[w])=(kR ws).bind λfl=>dm fl w:=by
 unfold kR;rw[List.foldl_append];rfl
theorem RY{ws:List eD}:∀{vs:List eD},kR ws=none->kR (ws++vs)=none
 |[],h=>by rwa [List.append_nil]
 |v::vs,h=>by
  rw[show ws++v::vs=(ws++[v])++vs by simp];exact RY (by rw[Gm,h];rfl)
theorem LP{ws:List eD}{k:Nat}(h:kR (ws.take k)=none):kR ws=none:=by
 rw[<- List.take_append_drop k ws];exact RY h
theorem dx{α:Type}{ws:List α}{k:Nat}{w:α}(h:ws[k]? =some w):ws.take (k+1)=ws.take k++[w]:=by
 rw[List.take_add_one,h];rfl
theorem Gn{ws:List eD}{k:Nat}{w:eD}(h:ws[k]? =some w){fl:List Bool}(hf:kR (ws.take k)=some fl):kR (ws.take (k+1))=dm fl w:=by
 rw[dx h,Gm,hf];rfl
theorem ac3{fl mD:List Bool}{w:eD}(h:dm fl w=some mD):mD.length<=fl.length+1:=by
 unfold dm at h;repeat' split at h
 all_goals first|(cases h;done)|(injection h with h;subst h;simp;try omega)
theorem Dm:∀(n:Nat) {ws:List eD} {fl:List Bool},ws.length=n->kR ws=some fl->fl.length<=n
 |0,ws,fl,hn,h=>by
  have:=List.length_eq_zero_iff.1 hn;subst this;cases h;exact Nat.le_refl _
 |n+1,ws,fl,hn,h=>by
  have hw:ws[n]? =some (ws[n]'(by omega)):=List.getElem?_eq_getElem _;have ht:=dx hw;rw[List.take_of_length_le (by omega)]at ht;rw[ht,Gm]at h;cases e:kR (ws.take n)with
  |none=>rw[e]at h;cases h
  |some f0=>
   rw[e]at h;have h1:=Dm n (by rw[List.length_take];omega) e;have h2:=ac3 (fl:=f0) h;omega
structure fo(ws:List eD):Prop where
 len:ws.length<=256
 fl:kR ws=some [false]
def hold(x:Int):Int:=max (-1099511627776) (min 1099511627776 x)
def mE(a b:Int):Int:=if b≠0/\(1099511627776:Int).tdiv (max b (-b))<max a (-a)then(if decide (a<0)≠decide (b<0)then -1099511627776 else 1099511627776)else a*b
def qc(a b:Int):Int:=if b=0 then 0 else if a.tmod b≠0/\decide (a<0)≠decide (b<0)then a.tdiv b - 1 else a.tdiv b
def kU(op a b:Int):Int:=
 if op=3 then hold (a+b)else if op=4 then hold (a - b)else if op=5 then mE a b else if op=6 then qc a b else if op=7 then min a b else if op=8 then max a b else if a<b then 1 else 0
def dN(x:Int):Prop:= -1099511627776<=x/\x<=1099511627776
theorem ac4(x:Int):dN (hold x):=by unfold dN hold;omega
theorem RZ{a b:Int}:dN (mE a b):=by
 unfold mE;split
 ·split<;>(unfold dN;omega)
 ·rename_i h;by_cases hb0:b=0
  ·subst hb0;rw[Int.mul_zero];unfold dN;omega
  have h1:max a (-a)<=(1099511627776:Int).tdiv (max b (-b)):=by
   apply Classical.byContradiction;intro hn;exact h ⟨hb0,by omega⟩
  have hbp:(0:Int)<max b (-b):=by omega
  rw[Int.tdiv_eq_ediv_of_nonneg (by decide)]at h1;have h2:max a (-a)*max b (-b)<=1099511627776:=(Int.le_ediv_iff_mul_le hbp).1 h1;have h3:max a (-a)=(a.natAbs:Int):=by omega
  have h4:max b (-b)=(b.natAbs:Int):=by omega
  rw[h3,h4,<- Int.natCast_mul,<- Int.natAbs_mul]at h2;unfold dN;omega
theorem R3{a b:Int}(ha:dN a)(hb:dN b):dN (qc a b):=by
 have hq:(a.tdiv b).natAbs<=a.natAbs:=by rw[Int.natAbs_tdiv];exact Nat.div_le_self _ _
 unfold dN at ha;unfold qc;split
 ·unfold dN;omega
 ·rename_i hb0;split
  ·rename_i h;obtain⟨h1,h2⟩:=h;by_cases hb1:b.natAbs=1
   ·exfalso
    have:b=1\/b= -1:=by omega
    rcases this with rfl|rfl
    ·exact h1 (by simp)
    ·exact h1 (by simp)
   ·have hq2:(a.tdiv b).natAbs<=a.natAbs/2:=by rw[Int.natAbs_tdiv];exact Nat.div_le_div_left (by omega) (by decide)
    unfold dN;omega
  ·unfold dN;omega
theorem ac5{op a b:Int}(ha:dN a)(hb:dN b):dN (kU op a b):=by
 unfold kU;repeat' split
 all_goals first
  |exact ac4 _
  |exact RZ
  |exact R3 ha hb
  |(unfold dN at *;omega)
def oP(inp st:List Int)(w:eD):List Int:=
 if w.op=1 then st++[w.n]else if w.op=2 then st++[inp.getD w.n.toNat 0]
 else if w.op=10 then st.take (st.length - 3)++[if st.getD (st.length - 3) 0≠0 then st.getD (st.length - 2) 0 else st.getD (st.length - 1) 0]
 else st.take (st.length - 2)++[kU w.op (st.getD (st.length - 2) 0) (st.getD (st.length - 1) 0)]
def gu(inp:List Int)(ws:List eD):List Int:=ws.foldl (oP inp) []
theorem R4(inp:List Int)(ws:List eD)(w:eD):gu inp (ws++[w])=oP inp (gu inp ws) w:=by
 unfold gu;rw[List.foldl_append];rfl
theorem R5{inp:List Int}{ws:List eD}{k:Nat}{w:eD}(h:ws[k]? =some w):gu inp (ws.take (k+1))=oP inp (gu inp (ws.take k)) w:=by
 rw[dx h,R4]
structure yF(inp:List Int):Prop where
 len:inp.length=5
 LQ:∀x∈inp,0<=x/\x<=1048576
theorem qO{st:List Int}{k:Nat}(h:k<st.length):st.getD k 0∈st:=by
 rw[List.getD_eq_getElem?_getD,List.getElem?_eq_getElem h];exact List.getElem_mem h
theorem ac6{inp st:List Int}{fl mD:List Bool}{w:eD}(hi:yF inp)(h:dm fl w=some mD)(hl:st.length=fl.length)(hr:∀x∈st,dN x):(oP inp st w).length=mD.length/\∀x∈oP inp st w,dN x:=by
 have happ:∀{a:List Int} {y:Int},(∀x∈a,dN x)->dN y->∀x∈a++[y],dN x:=λha hy x hx=>by
  rcases List.mem_append.1 hx with hx|hx
  ·exact ha x hx
  ·rw[List.mem_singleton.1 hx];exact hy
 have htk:∀k,∀x∈st.take k,dN x:=λk x hx=>hr x (List.mem_of_mem_take hx);unfold dm at h;unfold oP;split at h
 ·rename_i h1;rw[if_pos h1];split at h
  ·cases h;exact⟨by simp[hl],happ hr (by unfold dN;omega)⟩
  ·cases h
 ·rename_i h1;rw[if_neg h1];split at h
  ·rename_i h2;rw[if_pos h2];split at h
   ·cases h;have:=hi.LQ _ (qO (st:=inp) (k:=w.n.toNat) (by have:=hi.len;omega));exact⟨by simp[hl],happ hr (by unfold dN;omega)⟩
   ·cases h
  ·rename_i h2;rw[if_neg h2];split at h
   ·cases h
   ·split at h
    ·rename_i h3;rw[if_pos h3];split at h
     ·rename_i h4;cases h;refine⟨by simp;omega,happ (htk _) ?_⟩;split
      ·exact hr _ (qO (by omega))
      ·exact hr _ (qO (by omega))
     ·cases h
    ·rename_i h3;rw[if_neg h3];split at h
     ·split at h
      ·cases h;exact⟨by simp;omega,happ (htk _) (ac5 (hr _ (qO (by omega))) (hr _ (qO (by omega))))⟩
      ·cases h
     ·cases h
theorem wO{inp:List Int}(hi:yF inp):∀(n:Nat) {ws:List eD} {fl:List Bool},ws.length=n->kR ws=some fl->(gu inp ws).length=fl.length/\∀x∈gu inp ws,dN x
 |0,ws,fl,hn,h=>by
  have:=List.length_eq_zero_iff.1 hn;subst this;cases h;exact⟨rfl,λx hx=>by cases hx⟩
 |n+1,ws,fl,hn,h=>by
  have hw:ws[n]? =some (ws[n]'(by omega)):=List.getElem?_eq_getElem _;have ht:=dx hw;rw[List.take_of_length_le (by omega)]at ht;rw[ht,Gm]at h;rw[ht,R4];cases e:kR (ws.take n)with
  |none=>rw[e]at h;cases h
  |some f0=>
   rw[e]at h;obtain⟨h1,h2⟩:=wO hi n (by rw[List.length_take];omega) e;exact ac6 hi h h1 h2
theorem fo.take{ws:List eD}(h:fo ws)(k:Nat):∃fl,kR (ws.take k)=some fl:=by
 cases e:kR (ws.take k)with
 |none=>have:=h.fl;rw[LP e]at this;cases this
 |some fl=>exact⟨fl,rfl⟩
theorem fo.step{ws:List eD}(h:fo ws){k:Nat}{w:eD}(hw:ws[k]? =some w):∃fl mD,kR (ws.take k)=some fl/\dm fl w=some mD:=by
 obtain⟨fl,h1⟩:=h.take k;obtain⟨mD,h2⟩:=h.take (k+1);exact⟨fl,mD,h1,by rw[<- Gn hw h1];exact h2⟩
def pts(ws:List eD)(inp:List Int):Int:=max 0 (min 1048576 ((gu inp ws).getD 0 0))
theorem LU(ws:List eD)(inp:List Int):0<=pts ws inp/\pts ws inp<=1048576:=by unfold pts;omega
structure aT where
 c:Int
 p:Int
 lv:List Int
 cl:List Int
 pg:List eD
 pz:List Int
structure aG where
 c:Int
 p:Int
 t:Int
 lo:Int
 hi:Int
 r:Bool
def tL(l:List Int)(lo hi:Int):Prop:=∀x∈l,lo<=x/\x<=hi
structure Dn(s:aT):Prop where
 c1:1<=s.c
 c8:s.c<=8
 p1:1<=s.p
 p8:s.p<=8
 lv:(s.lv.length:Int)=s.p
 cl:(s.cl.length:Int)=s.p
 pz:s.pz.length<=8
 Gp:tL s.lv 0 9
 Gq:tL s.cl 0 512
 R6:tL s.pz 0 1048576
structure iW(s:aT)(x:aG):Prop where
 c0:0<=x.c
 c1:x.c<s.c
 p0:0<=x.p
 p1:x.p<s.p
 t0:0<=x.t
 t1:x.t<=32
 lo:0<=x.lo
 le:x.lo<=x.hi
 hi:x.hi<=1048576
structure Av(s:aT)(l:List aG):Prop where
 len:l.length<=32
 pg:fo s.pg
 sh:Dn s
 rs:∀x∈l,iW s x
open Classical in
noncomputable def eU(s:aT)(l:List aG):Int:=if 32<l.length then 2 else if¬fo s.pg then 520 else if¬(Dn s/\∀x∈l,iW s x)then 530 else 0
theorem R7{s:aT}{l:List aG}(h:32<l.length):eU s l=2:=by unfold eU;rw[if_pos h]
theorem R8{s:aT}{l:List aG}(h:¬32<l.length)(h2:¬fo s.pg):eU s l=520:=by unfold eU;rw[if_neg h,if_pos h2]
theorem nL{s:aT}{l:List aG}(h:¬32<l.length)(h2:fo s.pg)(h3:Dn s->(∀x∈l,iW s x)->False):eU s l=530:=by
 unfold eU;rw[if_neg h,if_neg (λk=>k h2),if_pos λk=>h3 k.1 k.2]
theorem LV{s:aT}{l:List aG}(h:Av s l):eU s l=0:=by
 have:=h.len;unfold eU;rw[if_neg (by omega),if_neg (λk=>k h.pg),if_neg λk=>k ⟨h.sh,h.rs⟩]
theorem mX{s:aT}{l:List aG}(h:eU s l=0):Av s l:=by
 unfold eU at h;split at h
 ·cases h
 ·split at h
  ·cases h
  ·split at h
   ·cases h
   ·rename_i h1 h2 h3;have h3:=Classical.not_not.1 h3;exact⟨by omega,Classical.not_not.1 h2,h3.1,h3.2⟩
def jH(l:List aG)(p:Int)(i:Nat):Bool:=match l[i]? with
 |some x=>x.r&&decide (x.p=p)&&!((l.take i).any λy=>y.r&&decide (y.p=p)&&decide (y.c=x.c))
 |none=>false
def aL(l:List aG)(p:Int):List Nat:=(List.range l.length).filter (jH l p)
def fq(l:List aG)(p:Int)(n:Nat):List Nat:=(List.range n).filter (jH l p)
theorem LW(l:List aG)(p:Int)(n:Nat):fq l p (n+1)=if jH l p n then fq l p n++[n]else fq l p n:=by
 unfold fq;rw[List.range_succ,List.filter_append];by_cases h:jH l p n
 ·rw[if_pos h,List.filter_cons_of_pos h];rfl
 ·rw[if_neg h,List.filter_cons_of_neg h];simp
theorem LX{l:List aG}{p:Int}{n i:Nat}(h:i∈fq l p n):i<n/\jH l p i=true:=by
 have:=List.mem_filter.1 h;exact⟨List.mem_range.1 this.1,this.2⟩
theorem LY(l:List aG)(p:Int)(n:Nat):(fq l p n).length<=n:=by
 have:=List.length_filter_le (jH l p) (List.range n);rw[List.length_range]at this;exact this
def dR:aG:=⟨0,0,0,0,0,false⟩
def add1(s:aT)(l:List aG)(p:Nat)(own:List Nat)(aF:List Int)(t:List Int)(n:Nat):List Int:=
 let x:=l.getD (own.getD n 0) dR
 t.set x.c.toNat (t.getD x.c.toNat 0+pts s.pg [aF.getD n 0,(own.length:Int),s.lv.getD p 0,s.cl.getD p 0,x.t])
def addN(s:aT)(l:List aG)(p:Nat)(own:List Nat)(aF:List Int)(t:List Int):Nat->List Int
 |0=>t
 |n+1=>add1 s l p own aF (addN s l p own aF t n) n
theorem ac7(s:aT)(l:List aG)(p:Nat)(own:List Nat)(aF t:List Int)(n:Nat):(add1 s l p own aF t n).length=t.length:=by unfold add1;exact List.length_set
theorem Aw(s:aT)(l:List aG)(p:Nat)(own:List Nat)(aF t:List Int):∀n,(addN s l p own aF t n).length=t.length
 |0=>rfl
 |n+1=>by rw[addN,ac7,Aw]
theorem ac8{s:aT}{l:List aG}{p:Nat}{own:List Nat}{aF t:List Int}{n:Nat}{B:Int}(h:∀x∈t,0<=x/\x<=B)(hB:0<=B):∀x∈add1 s l p own aF t n,0<=x/\x<=B+1048576:=by
 intro x hx;unfold add1 at hx;dsimp only at hx;have hp:=LU s.pg [aF.getD n 0,(own.length:Int),s.lv.getD p 0,s.cl.getD p 0,(l.getD (own.getD n 0) dR).t];generalize pts s.pg _=q at hx hp;generalize(l.getD (own.getD n 0) dR).c.toNat=k at hx;rcases List.mem_or_eq_of_mem_set hx with hx|hx
 ·have:=h x hx;omega
 ·have h0:0<=t.getD k 0/\t.getD k 0<=B:=by
   by_cases hk:k<t.length
   ·exact h _ (qO hk)
   ·rw[List.getD_eq_getElem?_getD,List.getElem?_eq_none (by omega)];exact⟨Int.le_refl _,hB⟩
  omega
theorem Dp{s:aT}{l:List aG}{p:Nat}{own:List Nat}{aF t:List Int}{B:Int}(h:∀x∈t,0<=x/\x<=B)(hB:0<=B):∀(n:Nat),∀x∈addN s l p own aF t n,0<=x/\x<=B+(n:Int)*1048576
 |0=>λx hx=>by have:=h x hx;omega
 |n+1=>λx hx=>by
  have:=ac8 (Dp h hB n) (by omega) x hx;omega
theorem ac9{s:aT}{l:List aG}{p:Nat}{own:List Nat}{aF t z:List Int}{n:Nat}(h:(l.getD (own.getD n 0) dR).c.toNat<t.length):add1 s l p own aF (t++z) n=add1 s l p own aF t n++z:=by
 unfold add1;dsimp only;rw[List.set_append_left _ _ h,show∀k,k<t.length->(t++z).getD k 0=t.getD k 0 from λk hk=>by rw[List.getD_eq_getElem?_getD,List.getD_eq_getElem?_getD,List.getElem?_append_left hk]];exact h
theorem R9{s:aT}{l:List aG}{p:Nat}{own:List Nat}{aF t z:List Int}:∀{n:Nat},(∀i,i<n->(l.getD (own.getD i 0) dR).c.toNat<t.length)->addN s l p own aF (t++z) n=addN s l p own aF t n++z
 |0,_=>rfl
 |n+1,h=>by
  rw[addN,R9 λi hi=>h i (by omega),ac9 (by rw[Aw];exact h n (by omega))];rfl
def fO(s:aT)(l:List aG)(p:Nat)(aF t:List Int):List Int:=addN s l p (aL l p) aF t (aL l p).length
theorem Dq{s:aT}{l:List aG}(h:∀x∈l,iW s x){p:Int}{i:Nat}(hi:i<(aL l p).length):(aL l p).getD i 0<l.length/\iW s (l.getD ((aL l p).getD i 0) dR):=by
 have hm:(aL l p).getD i 0∈aL l p:=by rw[List.getD_eq_getElem?_getD,List.getElem?_eq_getElem hi];exact List.getElem_mem hi
 have hl:=(LX (n:=l.length) hm).1;refine⟨hl,?_⟩;generalize(aL l p).getD i 0=j at hl;rw[List.getD_eq_getElem?_getD,List.getElem?_eq_getElem hl];exact h _ (List.getElem_mem hl)
theorem Sa{s:aT}{l:List aG}(h:Av s l){p:Nat}{aF t z:List Int}(ht:(t.length:Int)=s.c):fO s l p aF (t++z)=fO s l p aF t++z:=by
 unfold fO;refine R9 λi hi=>?_;have:=(Dq h.rs hi).2;have:=this.c0;have:=(Dq h.rs hi).2.c1;omega
def iP(s:aT)(l:List aG)(ts t:List Int):Nat->List Int
 |0=>t
 |n+1=>fO s l n (places ((aL l n).map λi=>ts.getD i 0)) (iP s l ts t n)
theorem yG(s:aT)(l:List aG)(ts t:List Int):∀n,(iP s l ts t n).length=t.length
 |0=>rfl
 |n+1=>by rw[iP,fO,Aw,yG]
theorem Sb{s:aT}{l:List aG}(h:Av s l){ts t z:List Int}(ht:(t.length:Int)=s.c):∀n,iP s l ts (t++z) n=iP s l ts t n++z
 |0=>rfl
 |n+1=>by rw[iP,Sb h ht n,Sa h (by rw[yG];exact ht)];rfl
theorem Dr(l:List aG)(p:Int):(aL l p).length<=l.length:=LY l p l.length
theorem Sc{s:aT}{l:List aG}(hl:l.length<=32){ts t:List Int}(ht:∀x∈t,x=0):∀(n:Nat),∀x∈iP s l ts t n,0<=x/\x<=(n:Int)*33554432
 |0=>λx hx=>by have:=ht x hx;omega
 |n+1=>λx hx=>by
  have h1:=Dp (Sc hl ht n) (by omega) _ x hx;have:=Dr l (n:Int);have h2:((aL l n).length:Int)*1048576<=32*1048576:=Int.mul_le_mul_of_nonneg_right (by omega) (by decide);omega
theorem Sd{ts:List Int}{x:Int}(h:x∈places ts):1<=x/\x<=1+ts.length:=by
 obtain⟨a,_,rfl⟩:=List.mem_map.1 h;have:=List.countP_le_length (p:=λb=>decide (b<a)) (l:=ts);omega
def mF(s:aT)(l:List aG)(ts:List Int):List Int:=iP s l ts (List.replicate s.c.toNat 0) s.p.toNat
def lH(l:List aG)(ts:List Int):Prop:=ts.length=l.length/\∀(i:Nat) x t,l[i]? =some x->ts[i]? =some t->x.lo<=t/\t<=x.hi
def aQ(xs:List Int):List Int:=xs.map λn=>1+((xs.countP λm=>decide (n<m):Nat):Int)
end Rk
namespace Rk
def jr(l:List aG)(p:Int)(n:Nat):List Int:=(fq l p n).map λi=>(l.getD i dR).c
theorem LZ(l:List aG)(p:Int)(n:Nat):jr l p (n+1)=if jH l p n then jr l p n++[(l.getD n dR).c]else jr l p n:=by
 unfold jr;rw[LW];split
 ·rw[List.map_append];rfl
 ·rfl
theorem Sg{l:List aG}{p:Int}{c:Int}:∀{n:Nat},n<=l.length->(c∈jr l p n↔((l.take n).any λy=>y.r&&decide (y.p=p)&&decide (y.c=c))=true)
 |0,_=>by simp[jr,fq]
 |n+1,h=>by
  have hx:l[n]? =some (l[n]'(by omega)):=List.getElem?_eq_getElem _;have ih:=Sg (l:=l) (p:=p) (c:=c) (n:=n) (by omega);have hg:l.getD n dR=l[n]'(by omega):=by rw[List.getD_eq_getElem?_getD,hx];rfl
  generalize l[n]'(by omega)=x at hx hg;rw[LZ,hg,dx hx,List.any_append];have hf:jH l p n=(x.r&&decide (x.p=p)&&!((l.take n).any λy=>y.r&&decide (y.p=p)&&decide (y.c=x.c))):=by unfold jH;rw[hx]
  rw[hf];by_cases h1:x.r=true/\x.p=p
  ·obtain⟨h1,h2⟩:=h1;by_cases hc:x.c=c
   ·subst hc;cases ha:(l.take n).any λy=>y.r&&decide (y.p=p)&&decide (y.c=x.c)with
    |true=>rw[if_neg (by simp)];rw[ih,ha];simp
    |false=>rw[if_pos (by simp[h1,h2])];simp[h1,h2]
   ·split
    ·rw[List.mem_append,ih];simp[hc,Ne.symm hc]
    ·rw[ih];simp[hc]
  ·have:(x.r&&decide (x.p=p))=false:=by
    cases hr:x.r with
    |false=>rfl
    |true=>simp;intro hp;exact h1 ⟨hr,hp⟩
   rw[if_neg (by rw[this];simp),ih];simp[this]
theorem Si{l:List aG}{p:Int}{n:Nat}{x:aG}(hx:l[n]? =some x):jH l p n=(x.r&&(decide (x.p=p)&&!decide (x.c∈jr l p n))):=by
 have hn:=(List.getElem?_eq_some_iff.1 hx).1;have hm:=Sg (l:=l) (p:=p) (c:=x.c) (n:=n) (by omega);unfold jH;rw[hx];dsimp only;rw[Bool.and_assoc];congr 3;cases ha:(l.take n).any λy=>y.r&&decide (y.p=p)&&decide (y.c=x.c)with
 |true=>rw[decide_eq_true (hm.2 ha)]
 |false=>rw[decide_eq_false λk=>by rw[hm.1 k]at ha;cases ha]
def ints(l:List Nat):List Int:=l.map λ(i:Nat)=>(i:Int)
theorem tN(l:List Nat):(ints l).length=l.length:=List.length_map ..
theorem yH{l:List Nat}{k:Nat}{x:Int}(h:(ints l)[k]? =some x):∃i:Nat,l[k]? =some i/\x=(i:Int):=by
 unfold ints at h;rw[List.getElem?_map]at h;cases e:l[k]? with
 |none=>rw[e]at h;cases h
 |some i=>rw[e]at h;cases h;exact⟨i,rfl,rfl⟩
theorem L6(l:List Nat)(i:Nat):ints (l++[i])=ints l++[(i:Int)]:=by unfold ints;rw[List.map_append];rfl
theorem len8{α:Type}{l:List α}(h:l.length=8):∃a b c d e f g k,l=[a,b,c,d,e,f,g,k]:=by
 match l,h with
 |[a,b,c,d,e,f,g,k],_=>exact⟨a,b,c,d,e,f,g,k,rfl⟩
def uT(xs:List Int)(lo hi:Int):Bool:=!(xs.any λx=>decide (x<lo\/hi<x))
theorem lI{xs:List Int}{lo hi:Int}:uT xs lo hi=true↔tL xs lo hi:=by
 unfold uT tL;rw[Bool.not_eq_true',List.any_eq_false];constructor
 ·intro h x hx;have:=h x hx;simp at this;omega
 ·intro h x hx;have:=h x hx;simp;omega
theorem uU{xs:List Int}{lo hi:Int}(h:uT xs lo hi=false):¬tL xs lo hi:=λk=>by rw[lI.2 k]at h;cases h
theorem tO{x lo hi:Int}:tL [x] lo hi↔lo<=x/\x<=hi:=by unfold tL;simp
theorem Sj{x y lo hi:Int}:tL [x,y] lo hi↔(lo<=x/\x<=hi)/\lo<=y/\y<=hi:=by unfold tL;simp
open Classical in
noncomputable def rW(s:aT)(l:List aG)(ts:List Int):Int:=if eU s l≠0 then eU s l else if¬lH l ts then 1 else 0
open Classical in
noncomputable def yI(s:aT)(l:List aG)(ts:List Int):List Int:=if rW s l ts=0 then mF s l ts else[]
theorem Sk{s:aT}{l:List aG}{ts:List Int}(h:eU s l≠0):rW s l ts=eU s l/\yI s l ts=[]:=by
 have e:rW s l ts=eU s l:=by unfold rW;rw[if_pos h]
 exact⟨e,by unfold yI;rw[if_neg (by rw[e];exact h)]⟩
theorem Ay{s:aT}{l:List aG}{ts:List Int}(h:eU s l=0)(h2:¬lH l ts):rW s l ts=1/\yI s l ts=[]:=by
 have e:rW s l ts=1:=by unfold rW;rw[if_neg (by omega),if_pos h2]
 exact⟨e,by unfold yI;rw[if_neg (by omega)]⟩
theorem Az{s:aT}{l:List aG}{ts:List Int}(h:eU s l=0)(h2:lH l ts):rW s l ts=0/\yI s l ts=mF s l ts:=by
 have e:rW s l ts=0:=by unfold rW;rw[if_neg (by omega),if_neg (λk=>k h2)]
 exact⟨e,by unfold yI;rw[if_pos e]⟩
def iQ(l:List aG)(ts:List Int)(p:Int):List Int:=(aL l p).map λi=>ts.getD i 0
theorem L8(l:List aG)(ts:List Int)(p:Int):(iQ l ts p).length=(aL l p).length:=List.length_map ..
theorem Gr{l:List aG}{ts:List Int}{p:Int}{k i:Nat}(h:(aL l p)[k]? =some i):(iQ l ts p)[k]? =some (ts.getD i 0):=by unfold iQ;rw[List.getElem?_map,h];rfl
theorem Sl{ts:List Int}{k:Nat}{x:Int}(h:ts[k]? =some x):(places ts)[k]? =some (1+((ts.countP λb=>decide (b<x):Nat):Int)):=by unfold places;rw[List.getElem?_map,h];rfl
theorem rX{l:List aG}{p:Int}{k i:Nat}(h:(aL l p)[k]? =some i):i<l.length:=(LX (n:=l.length) (List.mem_of_getElem? h)).1
theorem Sm{n m:Nat}(h:m<=n):List.replicate n (0:Int)=List.replicate m 0++List.replicate (n - m) 0:=by
 rw[List.replicate_append_replicate];congr 1;omega
