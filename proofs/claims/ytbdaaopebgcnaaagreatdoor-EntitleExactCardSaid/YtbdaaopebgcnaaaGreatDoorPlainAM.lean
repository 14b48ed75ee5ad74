/-
  Places of results whose times lie in ranges: the search group by group finds each list of places that times lead to, once.
-/
import Init
set_option linter.all false
namespace Rk
def cnt(n:Nat)(p:Nat->Bool):Nat:=(List.range n).countP p
theorem xD(n:Nat)(p:Nat->Bool):cnt (n+1) p=cnt n p+(if p n then 1 else 0):=by
 unfold cnt;rw[List.range_succ,List.countP_append,List.countP_singleton]
theorem Sq{n:Nat}{p q:Nat->Bool}(h:∀i,i<n->p i=q i):cnt n p=cnt n q:=by
 induction n with
 |zero=>rfl
 |succ n ih=>rw[xD,xD,ih λi hi=>h i (by omega),h n (by omega)]
theorem Md{n:Nat}{p:Nat->Bool}(h:∀i,i<n->p i=false):cnt n p=0:=by
 induction n with
 |zero=>rfl
 |succ n ih=>rw[xD,ih λi hi=>h i (by omega),h n (by omega)];rfl
theorem Hw{n:Nat}{p q r:Nat->Bool}(h:∀i,i<n->r i=(p i||q i))(hd:∀i,i<n->p i=true->q i=false):cnt n r=cnt n p+cnt n q:=by
 induction n with
 |zero=>rfl
 |succ n ih=>
  rw[xD,xD,xD,ih (λi hi=>h i (by omega)) (λi hi=>hd i (by omega)),h n (by omega)];have:=hd n (by omega);cases hp:p n<;>cases hq:q n
  ·simp
  ·simp;omega
  ·simp;omega
  ·rw[hp,hq]at this;simp at this
theorem Me{n:Nat}{p:Nat->Bool}{i:Nat}(hi:i<n)(h:p i=true):0<cnt n p:=by
 unfold cnt;exact List.countP_pos_iff.2 ⟨i,List.mem_range.2 hi,h⟩
theorem Sr{n:Nat}{p:Nat->Bool}(h:cnt n p=0):∀i,i<n->p i=false:=λi hi=>by
 cases hp:p i with
 |false=>rfl
 |true=>have:=Me hi hp;omega
theorem Mf(n:Nat)(p:Nat->Bool):cnt n p<=n:=by
 unfold cnt;have:=List.countP_le_length (p:=p) (l:=List.range n)
 rwa [List.length_range]at this
def mask(p:Nat->Bool):Nat->Nat
 |0=>0
 |n+1=>(if p n then 2^n else 0)+mask p n
theorem Mg(p:Nat->Bool):∀n,mask p n<2^n
 |0=>by simp[mask]
 |n+1=>by
  have:=Mg p n;rw[mask,Nat.pow_succ];split<;>omega
theorem Su(p:Nat->Bool):∀(n i:Nat),(mask p n).testBit i=(decide (i<n)&&p i)
 |0,i=>by simp[mask]
 |n+1,i=>by
  have ih:=Su p n;have hlt:=Mg p n;rw[mask];by_cases hp:p n=true
  ·rw[if_pos hp];rcases Nat.lt_trichotomy i n with h|h|h
   ·rw[Nat.testBit_two_pow_add_gt h,ih];simp[h,Nat.lt_succ_of_lt h]
   ·subst h;rw[Nat.testBit_two_pow_add_eq,Nat.testBit_lt_two_pow hlt];simp[hp]
   ·rw[Nat.testBit_lt_two_pow (Nat.lt_of_lt_of_le (show 2^n+mask p n<2^(n+1)by rw[Nat.pow_succ];omega) (Nat.pow_le_pow_right (by omega) h))];simp[show¬i<n+1 by omega]
  ·rw[if_neg hp,Nat.zero_add,ih];rcases Nat.lt_trichotomy i n with h|h|h
   ·simp[h,Nat.lt_succ_of_lt h]
   ·subst h;simp at hp;simp[hp]
   ·simp[show¬i<n+1 by omega,show¬i<n by omega]
theorem Sv{n g g':Nat}(h1:g<2^n)(h2:g'<2^n)(h:∀i,i<n->g.testBit i=g'.testBit i):g=g':=by
 apply Nat.eq_of_testBit_eq;intro i;by_cases hi:i<n
 ·exact h i hi
 ·have hp:=Nat.pow_le_pow_right (n:=2) (by omega) (show n<=i by omega);rw[Nat.testBit_lt_two_pow (Nat.lt_of_lt_of_le h1 hp),Nat.testBit_lt_two_pow (Nat.lt_of_lt_of_le h2 hp)]
theorem ads{n g:Nat}(h0:0<g)(h1:g<2^n):∃i,i<n/\g.testBit i=true:=by
 by_cases h:∃i,i<n/\g.testBit i=true
 ·exact h
 ·exfalso
  have:g=0:=Sv (n:=n) h1 (Nat.two_pow_pos n) λi hi=>by
   rw[Nat.zero_testBit];cases e:g.testBit i with
   |false=>rfl
   |true=>exact absurd ⟨i,hi,e⟩ h
  omega
abbrev qw:Int:=1048576
def lo(W:List (Int×Int))(i:Nat):Int:=(W.getD i (0,0)).1
def hi(W:List (Int×Int))(i:Nat):Int:=(W.getD i (0,0)).2
def kR(W:List (Int×Int))(fr:Int)(g:Nat):Nat->Int
 |0=>fr
 |i+1=>if g.testBit i then max (kR W fr g i) (lo W i)else kR W fr g i
def lq(W:List (Int×Int))(g:Nat):Nat->Int
 |0=>qw
 |i+1=>if g.testBit i then min (lq W g i) (hi W i)else lq W g i
abbrev jT(W:List (Int×Int))(fr:Int)(g:Nat):Int:=kR W fr g W.length
abbrev Mh(W:List (Int×Int))(g:Nat):Int:=lq W g W.length
abbrev fH(pl:List Int)(i:Nat):Bool:=decide (pl.getD i 0=0)
def clash(pl:List Int)(g n:Nat):Bool:=(List.range n).any λi=>g.testBit i&&!fH pl i
def nE(W:List (Int×Int))(pl:List Int)(fr:Int)(g:Nat):Bool:=!clash pl g W.length&&decide (jT W fr g<=Mh W g)
def late(W:List (Int×Int))(pl:List Int)(fr:Int)(g:Nat):Bool:=(List.range W.length).any λi=>!g.testBit i&&fH pl i&&decide (hi W i<=jT W fr g)
def iF(pl:List Int)(dn:Nat)(g:Nat):List Int:=pl.mapIdx λi x=>if g.testBit i then(dn:Int)+1 else x
def many(W:List (Int×Int))(g:Nat):Nat:=cnt W.length λi=>g.testBit i
def nG(W:List (Int×Int)):Nat->List Int->Int->Nat->List (List Int)
 |0,pl,_,_=>[pl]
 |f+1,pl,fr,dn=>if dn=W.length then[pl]else(List.range' 1 (2^W.length - 1)).flatMap λg=>
   if nE W pl fr g then(if late W pl fr g then[]else nG W f (iF pl dn g) (jT W fr g+1) (dn+many W g))else[]
structure Real(W:List (Int×Int))(pl:List Int)(fr:Int)(dn:Nat)(ps:List Int):Prop where
 len:ps.length=W.length
 old:∀i,i<W.length->fH pl i=false->ps.getD i 0=pl.getD i 0
 new:∃t:Nat->Int,∀i,i<W.length->fH pl i=true->fr<=t i/\lo W i<=t i/\t i<=hi W i/\ps.getD i 0=dn+1+cnt W.length λk=>fH pl k&&decide (t k<t i)
structure rO(W:List (Int×Int))(pl:List Int)(fr:Int)(dn:Nat):Prop where
 len:pl.length=W.length
 tot:cnt W.length (fH pl)+dn=W.length
 top:∀i,i<W.length->hi W i<=qw
theorem Hy{W:List (Int×Int)}{fr:Int}{g:Nat}:∀n,fr<=kR W fr g n
 |0=>Int.le_refl _
 |n+1=>by
  have:=Hy (W:=W) (fr:=fr) (g:=g) n;rw[kR];split<;>omega
theorem Sw{W:List (Int×Int)}{fr:Int}{g:Nat}:∀{n i:Nat},i<n->g.testBit i=true->lo W i<=kR W fr g n
 |n+1,i,h,hb=>by
  rw[kR];by_cases e:i=n
  ·subst e;rw[if_pos hb];omega
  ·have:=Sw (W:=W) (fr:=fr) (n:=n) (by omega) hb;split<;>omega
theorem Sy{W:List (Int×Int)}{fr v:Int}{g:Nat}(h0:fr<=v):∀{n:Nat},(∀i,i<n->g.testBit i=true->lo W i<=v)->kR W fr g n<=v
 |0,_=>h0
 |n+1,h=>by
  have ih:=Sy (W:=W) h0 (n:=n) λi hi=>h i (by omega);rw[kR];split
  ·have:=h n (by omega) (by assumption);omega
  ·exact ih
theorem Sz{W:List (Int×Int)}{g:Nat}:∀{n i:Nat},i<n->g.testBit i=true->lq W g n<=hi W i
 |n+1,i,h,hb=>by
  rw[lq];by_cases e:i=n
  ·subst e;rw[if_pos hb];omega
  ·have:=Sz (W:=W) (n:=n) (by omega) hb;split<;>omega
theorem SA{W:List (Int×Int)}{v:Int}{g:Nat}(h0:v<=qw):∀{n:Nat},(∀i,i<n->g.testBit i=true->v<=hi W i)->v<=lq W g n
 |0,_=>h0
 |n+1,h=>by
  have ih:=SA (W:=W) h0 (n:=n) λi hi=>h i (by omega);rw[lq];split
  ·have:=h n (by omega) (by assumption);omega
  ·exact ih
theorem A8{pl:List Int}{g n:Nat}:clash pl g n=false↔∀i,i<n->g.testBit i=true->fH pl i=true:=by
 unfold clash;rw[List.any_eq_false];constructor
 ·intro h i hi hb;have:=h i (List.mem_range.2 hi);rw[hb]at this;simpa using this
 ·intro h i hi;cases hb:g.testBit i with
  |false=>simp
  |true=>rw[h i (List.mem_range.1 hi) hb];simp
theorem adt{W:List (Int×Int)}{pl:List Int}{fr:Int}{g:Nat}:late W pl fr g=false↔∀i,i<W.length->g.testBit i=false->fH pl i=true->jT W fr g<hi W i:=by
 unfold late;rw[List.any_eq_false];constructor
 ·intro h i hi hb hf;have:=h i (List.mem_range.2 hi);rw[hb,hf]at this;simp at this;exact this
 ·intro h i hi;cases hb:g.testBit i with
  |true=>simp
  |false=>
   cases hf:fH pl i with
   |false=>simp
   |true=>
    have:=h i (List.mem_range.1 hi) hb hf;simp;omega
theorem A9{pl:List Int}{dn g i:Nat}(hi:i<pl.length):(iF pl dn g).getD i 0=if g.testBit i then(dn:Int)+1 else pl.getD i 0:=by
 unfold iF;rw[List.getD_eq_getElem?_getD,List.getElem?_mapIdx,List.getD_eq_getElem?_getD,List.getElem?_eq_getElem hi];rfl
theorem tJ{pl:List Int}{dn g:Nat}:(iF pl dn g).length=pl.length:=by unfold iF;rw[List.length_mapIdx]
theorem pM{pl:List Int}{dn g i:Nat}(hi:i<pl.length):fH (iF pl dn g) i=(fH pl i&&!g.testBit i):=by
 show decide ((iF pl dn g).getD i 0=0)=_;rw[A9 hi];cases hb:g.testBit i with
 |true=>rw[if_pos rfl];simp;omega
 |false=>simp
section
variable {W:List (Int×Int)} {pl ps:List Int} {fr:Int} {dn g:Nat}
theorem rO.next(s:rO W pl fr dn)(hc:clash pl g W.length=false):rO W (iF pl dn g) (jT W fr g+1) (dn+many W g):=by
 have hc:=A8.1 hc;refine⟨by rw[tJ,s.len],?_,s.top⟩;have h1:cnt W.length (fH pl)=cnt W.length (fH (iF pl dn g))+many W g:=Hw (λi hi=>by
  rw[pM (by rw[s.len];exact hi)];cases hb:g.testBit i with
  |false=>simp
  |true=>rw[hc i hi hb];rfl) (λi hi h=>by
  rw[pM (by rw[s.len];exact hi)]at h;cases hb:g.testBit i with
  |false=>rfl
  |true=>rw[hb]at h;simp at h)
 have:=s.tot;omega
theorem Ba(h0:0<g)(h1:g<2^W.length):0<many W g:=by
 obtain⟨i,hi,hb⟩:=ads h0 h1;exact Me hi hb
def Dr(W:List (Int×Int))(pl:List Int)(fr:Int)(dn:Nat)(ps:List Int)(t:Nat->Int):Prop:=
 ∀i,i<W.length->fH pl i=true->fr<=t i/\lo W i<=t i/\t i<=hi W i/\ps.getD i 0=dn+1+cnt W.length λk=>fH pl k&&decide (t k<t i)
theorem Dr.glue{t:Nat->Int}(s:rO W pl fr dn)(hok:nE W pl fr g=true)(r:Real W (iF pl dn g) (jT W fr g+1) (dn+many W g) ps)(ht:Dr W (iF pl dn g) (jT W fr g+1) (dn+many W g) ps t):
 Dr W pl fr dn ps λi=>if g.testBit i then jT W fr g else t i:=by
 unfold nE at hok;simp only[Bool.and_eq_true,Bool.not_eq_true',decide_eq_true_iff]at hok;have hc:=A8.1 hok.1;have hin:∀i,i<W.length->g.testBit i=true->ps.getD i 0=dn+1:=λi hi hb=>by
  have:=r.old i hi (by rw[pM (by rw[s.len];exact hi),hb];simp);rw[this,A9 (by rw[s.len];exact hi),if_pos hb]
 intro i hi hf;cases hb:g.testBit i with
 |true=>
  simp only[hb,if_true];refine⟨Hy _,Sw hi hb,Int.le_trans hok.2 (Sz hi hb),?_⟩;rw[hin i hi hb,Md]
  ·simp
  ·intro k hk;cases Mi:fH pl k with
   |false=>rfl
   |true=>
    cases hbk:g.testBit k with
    |true=>simp
    |false=>
     have:=ht k hk (by rw[pM (by rw[s.len];exact hk),Mi,hbk];rfl);simp;omega
 |false=>
  obtain⟨a1,a2,a3,a4⟩:=ht i hi (by rw[pM (by rw[s.len];exact hi),hf,hb];rfl);simp only[hb,Bool.false_eq_true,if_false];have hfr:fr<=jT W fr g:=Hy _;refine⟨by omega,a2,a3,?_⟩;rw[a4];have h2:cnt W.length (λk=>fH pl k&&decide ((if g.testBit k=true then jT W fr g else t k)<t i))=many W g+cnt W.length λk=>fH (iF pl dn g) k&&decide (t k<t i):=by
   refine Hw (λk hk=>?_) (λk hk h=>?_)
   ·rw[pM (by rw[s.len];exact hk)];cases hbk:g.testBit k with
    |true=>rw[hc k hk hbk];simp;omega
    |false=>simp
   ·rw[pM (by rw[s.len];exact hk),h];simp
  rw[h2];omega
theorem Real.of_next(s:rO W pl fr dn)(hok:nE W pl fr g=true)(r:Real W (iF pl dn g) (jT W fr g+1) (dn+many W g) ps):Real W pl fr dn ps:=by
 obtain⟨t,ht⟩:=r.new;have hg:=Dr.glue s hok r ht;unfold nE at hok;simp only[Bool.and_eq_true,Bool.not_eq_true',decide_eq_true_iff]at hok;have hc:=A8.1 hok.1;refine⟨r.len,λi hi hf=>?_,_,hg⟩;have hb:g.testBit i=false:=by
  cases hb:g.testBit i with
  |false=>rfl
  |true=>rw[hc i hi hb]at hf;cases hf
 have:=r.old i hi (by rw[pM (by rw[s.len];exact hi),hf];rfl);rw[this,A9 (by rw[s.len];exact hi),hb];rfl
theorem exists_least(t:Nat->Int)(p:Nat->Bool):∀n,(∃i,i<n/\p i=true)->∃m,m<n/\p m=true/\∀i,i<n->p i=true->t m<=t i
 |0,⟨i,h,_⟩=>absurd h (Nat.not_lt_zero _)
 |n+1,h=>by
  by_cases he:∃i,i<n/\p i=true
  ·obtain⟨m,h1,h2,h3⟩:=exists_least t p n he;by_cases hn:p n=true/\t n<t m
   ·refine⟨n,by omega,hn.1,λi hi hp=>?_⟩;by_cases e:i=n
    ·subst e;exact Int.le_refl _
    ·have:=h3 i (by omega) hp;omega
   ·refine⟨m,by omega,h2,λi hi hp=>?_⟩;by_cases e:i=n
    ·subst e;by_cases h4:t i<t m
     ·exact absurd ⟨hp,h4⟩ hn
     ·omega
    ·exact h3 i (by omega) hp
  ·obtain⟨i,hi,hp⟩:=h;have e:i=n:=by
    by_cases e:i=n
    ·exact e
    ·exact absurd ⟨i,by omega,hp⟩ he
   subst e;refine⟨i,by omega,hp,λk hk hpk=>?_⟩;by_cases e:k=i
   ·subst e;exact Int.le_refl _
   ·exact absurd ⟨k,by omega,hpk⟩ he
theorem Real.next(s:rO W pl fr dn)(hdn:dn≠W.length)(r:Real W pl fr dn ps):∃g,0<g/\g<2^W.length/\nE W pl fr g=true/\late W pl fr g=false/\Real W (iF pl dn g) (jT W fr g+1) (dn+many W g) ps:=by
 obtain⟨t,ht⟩:=r.new;have hex:∃i,i<W.length/\fH pl i=true:=by
  by_cases h:∃i,i<W.length/\fH pl i=true
  ·exact h
  ·have h0:cnt W.length (fH pl)=0:=Md λi hi=>by
    cases e:fH pl i with
    |false=>rfl
    |true=>exact absurd ⟨i,hi,e⟩ h
   have:=s.tot;omega
 obtain⟨m,m1,m2,m3⟩:=exists_least t (fH pl) W.length hex;let p:Nat->Bool:=λi=>fH pl i&&decide (t i=t m)
 let g:=mask p W.length
 have hb:∀i,i<W.length->g.testBit i=p i:=λi hi=>by
  show(mask p W.length).testBit i=_;rw[Su];simp[hi]
 have hbf:∀i,i<W.length->g.testBit i=true->fH pl i=true/\t i=t m:=λi hi h=>by
  rw[hb i hi]at h;simpa[p]using h
 have hgm:g.testBit m=true:=by rw[hb m m1];simp only[p,m2,decide_true,Bool.and_self]
 have h0:0<g:=by
  rcases Nat.eq_zero_or_pos g with h|h
  ·rw[h,Nat.zero_testBit]at hgm;cases hgm
  ·exact h
 obtain⟨t1,t2,t3,_⟩:=ht m m1 m2;have ajv:jT W fr g<=t m:=Sy t1 λi hi hbi=>by
  obtain⟨q1,q2⟩:=hbf i hi hbi;have:=(ht i hi q1).2.1;omega
 have ajw:t m<=Mh W g:=SA (by have:=s.top m m1;omega) λi hi hbi=>by
  obtain⟨q1,q2⟩:=hbf i hi hbi;have:=(ht i hi q1).2.2.1;omega
 have hc:clash pl g W.length=false:=A8.2 λi hi hbi=>(hbf i hi hbi).1;have hlt:∀i,i<W.length->fH pl i=true->g.testBit i=false->t m<t i:=λi hi hf hbi=>by
  have h1:=m3 i hi hf;rw[hb i hi]at hbi;simp only[p,hf,Bool.true_and,decide_eq_false_iff_not]at hbi;omega
 refine⟨g,h0,Mg _ _,?_,?_,?_⟩
 ·unfold nE;rw[hc];simp;omega
 ·refine adt.2 λi hi hbi hf=>?_;have:=hlt i hi hf hbi;have:=(ht i hi hf).2.2.1;omega
 ·refine⟨r.len,λi hi hf=>?_,t,λi hi hf=>?_⟩
  ·rw[A9 (by rw[s.len];exact hi)];rw[pM (by rw[s.len];exact hi)]at hf;cases hbi:g.testBit i with
   |true=>
    obtain⟨q1,q2⟩:=hbf i hi hbi;rw[if_pos rfl,(ht i hi q1).2.2.2,Md]
    ·simp
    ·intro k hk;cases Mi:fH pl k with
     |false=>rfl
     |true=>have:=m3 k hk Mi;simp;omega
   |false=>
    rw[hbi]at hf;exact r.old i hi (by simpa using hf)
  ·rw[pM (by rw[s.len];exact hi)]at hf;simp only[Bool.and_eq_true,Bool.not_eq_true']at hf;obtain⟨q1,q2⟩:=hf;obtain⟨a1,a2,a3,a4⟩:=ht i hi q1;have:=hlt i hi q1 q2;refine⟨by omega,a2,a3,?_⟩;rw[a4];have h2:cnt W.length (λk=>fH pl k&&decide (t k<t i))=many W g+cnt W.length λk=>fH (iF pl dn g) k&&decide (t k<t i):=by
    refine Hw (λk hk=>?_) (λk hk h=>?_)
    ·rw[pM (by rw[s.len];exact hk)];cases hbk:g.testBit k with
     |true=>
      obtain⟨u1,u2⟩:=hbf k hk hbk;rw[u1,u2];simp;omega
     |false=>simp
    ·rw[pM (by rw[s.len];exact hk),h];simp
   rw[h2];omega
theorem Dt:∀(f:Nat) {pl:List Int} {fr:Int} {dn:Nat} {ps:List Int},rO W pl fr dn->W.length<=dn+f->(ps∈nG W f pl fr dn↔Real W pl fr dn ps):=by
 have hend:∀{pl:List Int} {fr:Int} {dn:Nat} {ps:List Int},rO W pl fr dn->dn=W.length->(ps∈[pl]↔Real W pl fr dn ps):=by
  intro pl fr dn ps s h;have h0:cnt W.length (fH pl)=0:=by have:=s.tot;omega
  rw[List.mem_singleton];constructor
  ·rintro rfl;exact⟨s.len,λ_ _ _=>rfl,λ_=>0,λi hi hf=>by rw[Sr h0 i hi]at hf;cases hf⟩
  ·intro r;apply List.ext_getElem (by rw[r.len,s.len]);intro i h1 h2;have:=r.old i (by rw[<- r.len];exact h1) (Sr h0 i (by rw[<- r.len];exact h1))
   rwa [List.getD_eq_getElem?_getD,List.getD_eq_getElem?_getD,List.getElem?_eq_getElem h1,List.getElem?_eq_getElem h2]at this
 intro f;induction f with
 |zero=>
  intro pl fr dn ps s hle;exact hend s (by have:=s.tot;omega)
 |succ f ih=>
  intro pl fr dn ps s hle;rw[nG];by_cases hd:dn=W.length
  ·rw[if_pos hd];exact hend s hd
  rw[if_neg hd,List.mem_flatMap];constructor
  ·rintro⟨g,hg,hm⟩;rw[List.mem_range'_1]at hg;have h1:g<2^W.length:=by have:=Nat.two_pow_pos W.length;omega
   split at hm
   ·rename_i hok;split at hm
    ·cases hm
    ·have hc:clash pl g W.length=false:=by
      unfold nE at hok;simp only[Bool.and_eq_true,Bool.not_eq_true']at hok;exact hok.1
     have:=Ba (W:=W) (show 0<g by omega) h1;exact Real.of_next s hok ((ih (s.next hc) (by omega)).1 hm)
   ·cases hm
  ·intro r;obtain⟨g,h0,h1,h2,h3,h4⟩:=r.next s hd
   have hc:clash pl g W.length=false:=by
    unfold nE at h2;simp only[Bool.and_eq_true,Bool.not_eq_true']at h2;exact h2.1
   have:=Ba (W:=W) h0 h1;refine⟨g,by rw[List.mem_range'_1];omega,?_⟩;rw[if_pos h2,if_neg (by rw[h3];simp)];exact(ih (s.next hc) (by omega)).2 h4
end
end Rk
namespace Rk
theorem yT{α:Type}[DecidableEq α]:∀{a b:List α},a.Nodup->(∀x∈a,x∈b)->a.length<=b.length
 |[],_,_,_=>Nat.zero_le _
 |x::a,b,hn,h=>by
  obtain⟨h1,h2⟩:=List.nodup_cons.1 hn;have hx:=h x (List.mem_cons_self ..);have:=yT (b:=b.erase x) h2 λy hy=>(List.mem_erase_of_ne (by rintro rfl;exact h1 hy)).2 (h y (List.mem_cons_of_mem _ hy));rw[List.length_erase_of_mem hx]at this;have:=List.length_pos_of_mem hx;rw[List.length_cons];omega
section
variable {W:List (Int×Int)} {pl ps:List Int} {fr:Int} {dn g:Nat}
theorem SB(s:rO W pl fr dn)(hc:clash pl g W.length=false)(h0:0<many W g)(r:Real W (iF pl dn g) (jT W fr g+1) (dn+many W g) ps){i:Nat}(hi:i<W.length):g.testBit i=(fH pl i&&decide (ps.getD i 0=dn+1)):=by
 have hc:=A8.1 hc;have hl:i<pl.length:=by rw[s.len];exact hi
 cases hb:g.testBit i with
 |true=>
  have:=r.old i hi (by rw[pM hl,hb];simp);rw[A9 hl,if_pos hb]at this;rw[hc i hi hb,decide_eq_true this];rfl
 |false=>
  cases hf:fH pl i with
  |false=>rfl
  |true=>
   obtain⟨t,ht⟩:=r.new;have:=(ht i hi (by rw[pM hl,hf,hb];rfl)).2.2.2;rw[Bool.true_and]
   symm
   refine decide_eq_false ?_;omega
theorem SC:∀(f:Nat) {pl:List Int} {fr:Int} {dn:Nat},rO W pl fr dn->W.length<=dn+f->(nG W f pl fr dn).Nodup
 |0,pl,fr,dn,_,_=>by rw[nG];simp
 |f+1,pl,fr,dn,s,hle=>by
  rw[nG];by_cases hd:dn=W.length
  ·rw[if_pos hd];simp
  rw[if_neg hd];have hcl:∀{g:Nat},nE W pl fr g=true->clash pl g W.length=false:=λhok=>by
   unfold nE at hok;simp only[Bool.and_eq_true,Bool.not_eq_true']at hok;exact hok.1
  have hgr:∀{g:Nat},g∈List.range' 1 (2^W.length - 1)->0<g/\g<2^W.length:=λhg=>by
   rw[List.mem_range'_1]at hg;have:=Nat.two_pow_pos W.length;omega
  refine List.pairwise_flatMap.2 ⟨λg hg=>?_,?_⟩
  ·obtain⟨g0,g1⟩:=hgr hg;split
   ·rename_i hok;split
    ·exact List.Pairwise.nil
    ·have:=Ba (W:=W) g0 g1;exact SC f (s.next (hcl hok)) (by omega)
   ·exact List.Pairwise.nil
  ·refine List.Pairwise.imp_of_mem (R:=λa b:Nat=>a≠b) (λ{g g'} hg hg' hne x hx y hy he=>?_) (List.nodup_range' (s:=1) (n:=2^W.length - 1));subst he;obtain⟨g0,g1⟩:=hgr hg;obtain⟨g0',g1'⟩:=hgr hg';have hm:=Ba (W:=W) g0 g1;have hm':=Ba (W:=W) g0' g1';split at hx
   ·rename_i hok;split at hx
    ·cases hx
    ·split at hy
     ·rename_i hok';split at hy
      ·cases hy
      ·have r:=(Dt f (s.next (hcl hok)) (by omega)).1 hx;have r':=(Dt f (s.next (hcl hok')) (by omega)).1 hy;exact hne (Sv g1 g1' λi hi=>by rw[SB s (hcl hok) hm r hi,SB s (hcl hok') hm' r' hi])
     ·cases hy
   ·cases hx
def Bb(m:Nat):Nat->List (List Int)
 |0=>[[]]
 |n+1=>(Bb m n).flatMap λv=>(List.range m).map λ(x:Nat)=>((x:Int)+1)::v
theorem SE(m:Nat):∀n,(Bb m n).length=m^n
 |0=>rfl
 |n+1=>by
  have ih:=SE m n;have:∀l:List (List Int),(l.flatMap λv=>(List.range m).map λ(x:Nat)=>((x:Int)+1)::v).length=l.length*m:=by
   intro l;induction l with
   |nil=>simp
   |cons v l ih=>rw[List.flatMap_cons,List.length_append,ih,List.length_map,List.length_range,List.length_cons,Nat.add_mul];omega
  rw[Bb,this,ih,Nat.pow_succ]
theorem SF{m:Nat}:∀{n:Nat} {v:List Int},v.length=n->(∀x∈v,1<=x/\x<=m)->v∈Bb m n
 |0,v,h,_=>by rw[List.length_eq_zero_iff.1 h];exact List.mem_singleton.2 rfl
 |n+1,[],h,_=>by cases h
 |n+1,x::v,h,hx=>by
  rw[Bb,List.mem_flatMap];refine⟨v,SF (by simpa using h) λy hy=>hx y (List.mem_cons_of_mem _ hy),?_⟩;have:=hx x (List.mem_cons_self ..);rw[List.mem_map];exact⟨(x - 1).toNat,List.mem_range.2 (by omega),by rw[show(((x - 1).toNat:Nat):Int)+1=x by omega]⟩
theorem cnt_lt{n i:Nat}{p:Nat->Bool}(hi:i<n)(h:p i=false):cnt n p<n:=by
 have h1:cnt n (λ_=>true)=cnt n p+cnt n (λk=>!p k):=Hw (λk _=>by simp) (λk _ h=>by simp[h]);have h2:cnt n (λk=>!p k)>0:=Me hi (by simp[h]);have h3:=Mf n λ_=>true;omega
def pO(W:List (Int×Int)):List Int:=List.replicate W.length 0
theorem yU{i:Nat}:fH (pO W) i=true:=by
 unfold fH pO;rw[List.getD_eq_getElem?_getD,List.getElem?_replicate];split<;>simp
theorem Du(htop:∀i,i<W.length->hi W i<=qw)(fr:Int):rO W (pO W) fr 0:=by
 refine⟨by simp[pO],?_,htop⟩;have:∀n,cnt n (fH (pO W))=n:=by
  intro n;induction n with
  |zero=>rfl
  |succ n ih=>rw[xD,ih,yU,if_pos rfl]
 rw[this];rfl
def kw(W:List (Int×Int)):List (List Int):=nG W W.length (pO W) 0 0
theorem SG(htop:∀i,i<W.length->hi W i<=qw)(hn:W.length<=4):(kw W).length<=256:=by
 have h1:=yT (a:=kw W) (b:=Bb W.length W.length) (SC _ (Du htop 0) (by omega)) λps hps=>by
  have r:=(Dt _ (Du htop 0) (by omega)).1 hps;refine SF r.len λx hx=>?_;obtain⟨i,hi,he⟩:=List.mem_iff_getElem.1 hx;have hi':i<W.length:=by rw[<- r.len];exact hi
  obtain⟨t,ht⟩:=r.new;have h2:=(ht i hi' yU).2.2.2;rw[List.getD_eq_getElem?_getD,List.getElem?_eq_getElem hi,Option.getD_some,he]at h2;have:=cnt_lt (p:=λk=>fH (pO W) k&&decide (t k<t i)) hi' (by simp);omega
 rw[SE]at h1;have:W.length^W.length<=256:=by
  have h:W.length=0\/W.length=1\/W.length=2\/W.length=3\/W.length=4:=by omega
  rcases h with h|h|h|h|h<;>rw[h]<;>decide
 omega
def places(ts:List Int):List Int:=ts.map λa=>1+((ts.countP λb=>decide (b<a):Nat):Int)
theorem adu{ts:List Int}(p:Int->Bool):cnt ts.length (λk=>p (ts.getD k 0))=ts.countP p:=by
 have h:(List.range ts.length).map (λk=>ts.getD k 0)=ts:=by
  apply List.ext_getElem (by simp);intro i h1 h2;rw[List.getElem_map,List.getElem_range,List.getD_eq_getElem?_getD,List.getElem?_eq_getElem h2];rfl
 have h2:=congrArg (List.countP p) h;rw[List.countP_map]at h2;exact h2
theorem SH{ts:List Int}{i:Nat}(hi:i<ts.length):(places ts).getD i 0=1+cnt ts.length λk=>decide (ts.getD k 0<ts.getD i 0):=by
 unfold places;rw[List.getD_eq_getElem?_getD,List.getElem?_map,List.getElem?_eq_getElem hi,Option.map_some,Option.getD_some,adu (λb=>decide (b<ts.getD i 0)),List.getD_eq_getElem?_getD,List.getElem?_eq_getElem hi,Option.getD_some]
theorem Dv{ts:List Int}:(places ts).length=ts.length:=by unfold places;rw[List.length_map]
def Bc(W:List (Int×Int))(ts:List Int):Prop:=ts.length=W.length/\∀i,i<W.length->lo W i<=ts.getD i 0/\ts.getD i 0<=hi W i
theorem SI{a b:List Int}(hl:a.length=b.length)(h:∀i,i<a.length->a.getD i 0=b.getD i 0):a=b:=by
 apply List.ext_getElem hl;intro i h1 h2;have:=h i h1
 rwa [List.getD_eq_getElem?_getD,List.getD_eq_getElem?_getD,List.getElem?_eq_getElem h1,List.getElem?_eq_getElem h2]at this
theorem adv{t:Nat->Int}(hl:ps.length=W.length)(ht:Dr W (pO W) fr 0 ps t):Bc W ((List.range W.length).map t)/\ps=places ((List.range W.length).map t):=by
 have hlen:((List.range W.length).map t).length=W.length:=by simp
 have hg:∀i,i<W.length->((List.range W.length).map t).getD i 0=t i:=λi hi=>by
  rw[List.getD_eq_getElem?_getD,List.getElem?_map,List.getElem?_range hi];rfl
 refine⟨⟨hlen,λi hi=>?_⟩,?_⟩
 ·rw[hg i hi];have:=ht i hi yU;omega
 ·refine SI (by rw[Dv,hl,hlen]) λi hi=>?_;have hi:i<W.length:=by rw[<- hl];exact hi
  rw[SH (by rw[hlen];exact hi),(ht i hi yU).2.2.2,hlen,hg i hi];rw[Sq (q:=λk=>decide (((List.range W.length).map t).getD k 0<t i)) λk hk=>by rw[hg k hk,yU];rfl];simp
theorem adw(h0:∀i,i<W.length->0<=lo W i):Real W (pO W) 0 0 ps↔∃ts,Bc W ts/\ps=places ts:=by
 constructor
 ·intro r;obtain⟨t,ht⟩:=r.new;exact⟨_,adv r.len ht⟩
 ·rintro⟨ts,⟨h1,h2⟩,rfl⟩;refine⟨by rw[Dv,h1],(λi hi hf=>by rw[yU]at hf;cases hf),λi=>ts.getD i 0,λi hi hf=>?_⟩;have:=h0 i hi;obtain⟨q1,q2⟩:=h2 i hi;dsimp only;refine⟨by omega,q1,q2,?_⟩;rw[SH (by rw[h1];exact hi),h1];rw[Sq (p:=λk=>fH (pO W) k&&decide (ts.getD k 0<ts.getD i 0)) (q:=λk=>decide (ts.getD k 0<ts.getD i 0)) λk hk=>by rw[yU];rfl];simp
theorem Bd(htop:∀i,i<W.length->hi W i<=qw)(h0:∀i,i<W.length->0<=lo W i):ps∈kw W↔∃ts,Bc W ts/\ps=places ts:=
 (Dt _ (Du htop 0) (by omega)).trans (adw h0)
def adx(W:List (Int×Int))(x:Int):Prop:=∃k d,k<W.length/\d<W.length/\x=lo W k+(d:Int)
end
end Rk
namespace Rk
structure fu where
 op:Int
 n:Int
def dm(fl:List Bool)(w:fu):Option (List Bool):=
 if w.op=1 then(if 0<=w.n/\w.n<=1048576 then some (fl++[false])else none)
 else if w.op=2 then(if 0<=w.n/\w.n<5 then some (fl++[false])else none)
 else if w.n≠0 then none
 else if w.op=10 then(if 3<=fl.length/\fl[fl.length - 3]? =some true/\fl[fl.length - 2]? =some false/\fl[fl.length - 1]? =some false then some (fl.take (fl.length - 3)++[false])else none)
 else if 3<=w.op/\w.op<10 then(if 2<=fl.length/\fl[fl.length - 2]? =some false/\fl[fl.length - 1]? =some false then some (fl.take (fl.length - 2)++[decide (w.op=9)])else none)
 else none
def lu(ws:List fu):Option (List Bool):=ws.foldl (λo w=>o.bind λfl=>dm fl w) (some [])
theorem Hz(ws:List fu)(w:fu):lu (ws++[w])=(lu ws).bind λfl=>dm fl w:=by
 unfold lu;rw[List.foldl_append];rfl
theorem SK{ws:List fu}:∀{vs:List fu},lu ws=none->lu (ws++vs)=none
 |[],h=>by rwa [List.append_nil]
 |v::vs,h=>by
  rw[show ws++v::vs=(ws++[v])++vs by simp];exact SK (by rw[Hz,h];rfl)
theorem Mj{ws:List fu}{k:Nat}(h:lu (ws.take k)=none):lu ws=none:=by
 rw[<- List.take_append_drop k ws];exact SK h
theorem eD{α:Type}{ws:List α}{k:Nat}{w:α}(h:ws[k]? =some w):ws.take (k+1)=ws.take k++[w]:=by
 rw[List.take_add_one,h];rfl
theorem HV{ws:List fu}{k:Nat}{w:fu}(h:ws[k]? =some w){fl:List Bool}(hf:lu (ws.take k)=some fl):lu (ws.take (k+1))=dm fl w:=by
 rw[eD h,Hz,hf];rfl
theorem ady{fl mX:List Bool}{w:fu}(h:dm fl w=some mX):mX.length<=fl.length+1:=by
 unfold dm at h;repeat' split at h
 all_goals first|(cases h;done)|(injection h with h;subst h;simp;try omega)
theorem Dw:∀(n:Nat) {ws:List fu} {fl:List Bool},ws.length=n->lu ws=some fl->fl.length<=n
 |0,ws,fl,hn,h=>by
  have:=List.length_eq_zero_iff.1 hn;subst this;cases h;exact Nat.le_refl _
 |n+1,ws,fl,hn,h=>by
  have hw:ws[n]? =some (ws[n]'(by omega)):=List.getElem?_eq_getElem _;have ht:=eD hw;rw[List.take_of_length_le (by omega)]at ht;rw[ht,Hz]at h;cases e:lu (ws.take n)with
  |none=>rw[e]at h;cases h
  |some f0=>
   rw[e]at h;have h1:=Dw n (by rw[List.length_take];omega) e;have h2:=ady (fl:=f0) h;omega
structure fI(ws:List fu):Prop where
 len:ws.length<=256
 fl:lu ws=some [false]
def hold(x:Int):Int:=max (-1099511627776) (min 1099511627776 x)
def mY(a b:Int):Int:=if b≠0/\(1099511627776:Int).tdiv (max b (-b))<max a (-a)then(if decide (a<0)≠decide (b<0)then -1099511627776 else 1099511627776)else a*b
def qx(a b:Int):Int:=if b=0 then 0 else if a.tmod b≠0/\decide (a<0)≠decide (b<0)then a.tdiv b - 1 else a.tdiv b
def lC(op a b:Int):Int:=
 if op=3 then hold (a+b)else if op=4 then hold (a - b)else if op=5 then mY a b else if op=6 then qx a b else if op=7 then min a b else if op=8 then max a b else if a<b then 1 else 0
def eu(x:Int):Prop:= -1099511627776<=x/\x<=1099511627776
theorem adz(x:Int):eu (hold x):=by unfold eu hold;omega
theorem SL{a b:Int}:eu (mY a b):=by
 unfold mY;split
 ·split<;>(unfold eu;omega)
 ·rename_i h;by_cases hb0:b=0
  ·subst hb0;rw[Int.mul_zero];unfold eu;omega
  have h1:max a (-a)<=(1099511627776:Int).tdiv (max b (-b)):=by
   apply Classical.byContradiction;intro hn;exact h ⟨hb0,by omega⟩
  have hbp:(0:Int)<max b (-b):=by omega
  rw[Int.tdiv_eq_ediv_of_nonneg (by decide)]at h1;have h2:max a (-a)*max b (-b)<=1099511627776:=(Int.le_ediv_iff_mul_le hbp).1 h1;have h3:max a (-a)=(a.natAbs:Int):=by omega
  have h4:max b (-b)=(b.natAbs:Int):=by omega
  rw[h3,h4,<- Int.natCast_mul,<- Int.natAbs_mul]at h2;unfold eu;omega
theorem SN{a b:Int}(ha:eu a)(hb:eu b):eu (qx a b):=by
 have hq:(a.tdiv b).natAbs<=a.natAbs:=by rw[Int.natAbs_tdiv];exact Nat.div_le_self _ _
 unfold eu at ha;unfold qx;split
 ·unfold eu;omega
 ·rename_i hb0;split
  ·rename_i h;obtain⟨h1,h2⟩:=h;by_cases hb1:b.natAbs=1
   ·exfalso
    have:b=1\/b= -1:=by omega
    rcases this with rfl|rfl
    ·exact h1 (by simp)
    ·exact h1 (by simp)
   ·have hq2:(a.tdiv b).natAbs<=a.natAbs/2:=by rw[Int.natAbs_tdiv];exact Nat.div_le_div_left (by omega) (by decide)
    unfold eu;omega
  ·unfold eu;omega
theorem adA{op a b:Int}(ha:eu a)(hb:eu b):eu (lC op a b):=by
 unfold lC;repeat' split
 all_goals first
  |exact adz _
  |exact SL
  |exact SN ha hb
  |(unfold eu at *;omega)
def pQ(inp st:List Int)(w:fu):List Int:=
 if w.op=1 then st++[w.n]else if w.op=2 then st++[inp.getD w.n.toNat 0]
 else if w.op=10 then st.take (st.length - 3)++[if st.getD (st.length - 3) 0≠0 then st.getD (st.length - 2) 0 else st.getD (st.length - 1) 0]
 else st.take (st.length - 2)++[lC w.op (st.getD (st.length - 2) 0) (st.getD (st.length - 1) 0)]
def gZ(inp:List Int)(ws:List fu):List Int:=ws.foldl (pQ inp) []
theorem SQ(inp:List Int)(ws:List fu)(w:fu):gZ inp (ws++[w])=pQ inp (gZ inp ws) w:=by
 unfold gZ;rw[List.foldl_append];rfl
theorem SS{inp:List Int}{ws:List fu}{k:Nat}{w:fu}(h:ws[k]? =some w):gZ inp (ws.take (k+1))=pQ inp (gZ inp (ws.take k)) w:=by
 rw[eD h,SQ]
structure yV(inp:List Int):Prop where
 len:inp.length=5
 Mk:∀x∈inp,0<=x/\x<=1048576
theorem rP{st:List Int}{k:Nat}(h:k<st.length):st.getD k 0∈st:=by
 rw[List.getD_eq_getElem?_getD,List.getElem?_eq_getElem h];exact List.getElem_mem h
theorem adB{inp st:List Int}{fl mX:List Bool}{w:fu}(hi:yV inp)(h:dm fl w=some mX)(hl:st.length=fl.length)(hr:∀x∈st,eu x):(pQ inp st w).length=mX.length/\∀x∈pQ inp st w,eu x:=by
 have happ:∀{a:List Int} {y:Int},(∀x∈a,eu x)->eu y->∀x∈a++[y],eu x:=λha hy x hx=>by
  rcases List.mem_append.1 hx with hx|hx
  ·exact ha x hx
  ·rw[List.mem_singleton.1 hx];exact hy
 have htk:∀k,∀x∈st.take k,eu x:=λk x hx=>hr x (List.mem_of_mem_take hx);unfold dm at h;unfold pQ;split at h
 ·rename_i h1;rw[if_pos h1];split at h
  ·cases h;exact⟨by simp[hl],happ hr (by unfold eu;omega)⟩
  ·cases h
 ·rename_i h1;rw[if_neg h1];split at h
  ·rename_i h2;rw[if_pos h2];split at h
   ·cases h;have:=hi.Mk _ (rP (st:=inp) (k:=w.n.toNat) (by have:=hi.len;omega));exact⟨by simp[hl],happ hr (by unfold eu;omega)⟩
   ·cases h
  ·rename_i h2;rw[if_neg h2];split at h
   ·cases h
   ·split at h
    ·rename_i h3;rw[if_pos h3];split at h
     ·rename_i h4;cases h;refine⟨by simp;omega,happ (htk _) ?_⟩;split
      ·exact hr _ (rP (by omega))
      ·exact hr _ (rP (by omega))
     ·cases h
    ·rename_i h3;rw[if_neg h3];split at h
     ·split at h
      ·cases h;exact⟨by simp;omega,happ (htk _) (adA (hr _ (rP (by omega))) (hr _ (rP (by omega))))⟩
      ·cases h
     ·cases h
theorem xE{inp:List Int}(hi:yV inp):∀(n:Nat) {ws:List fu} {fl:List Bool},ws.length=n->lu ws=some fl->(gZ inp ws).length=fl.length/\∀x∈gZ inp ws,eu x
 |0,ws,fl,hn,h=>by
  have:=List.length_eq_zero_iff.1 hn;subst this;cases h;exact⟨rfl,λx hx=>by cases hx⟩
 |n+1,ws,fl,hn,h=>by
  have hw:ws[n]? =some (ws[n]'(by omega)):=List.getElem?_eq_getElem _;have ht:=eD hw;rw[List.take_of_length_le (by omega)]at ht;rw[ht,Hz]at h;rw[ht,SQ];cases e:lu (ws.take n)with
  |none=>rw[e]at h;cases h
  |some f0=>
   rw[e]at h;obtain⟨h1,h2⟩:=xE hi n (by rw[List.length_take];omega) e;exact adB hi h h1 h2
theorem fI.take{ws:List fu}(h:fI ws)(k:Nat):∃fl,lu (ws.take k)=some fl:=by
 cases e:lu (ws.take k)with
 |none=>have:=h.fl;rw[Mj e]at this;cases this
 |some fl=>exact⟨fl,rfl⟩
theorem fI.step{ws:List fu}(h:fI ws){k:Nat}{w:fu}(hw:ws[k]? =some w):∃fl mX,lu (ws.take k)=some fl/\dm fl w=some mX:=by
 obtain⟨fl,h1⟩:=h.take k;obtain⟨mX,h2⟩:=h.take (k+1);exact⟨fl,mX,h1,by rw[<- HV hw h1];exact h2⟩
def pts(ws:List fu)(inp:List Int):Int:=max 0 (min 1048576 ((gZ inp ws).getD 0 0))
theorem Ml(ws:List fu)(inp:List Int):0<=pts ws inp/\pts ws inp<=1048576:=by unfold pts;omega
structure aK where
 c:Int
 p:Int
 lv:List Int
 cl:List Int
 pg:List fu
 pz:List Int
structure ak where
 c:Int
 p:Int
 t:Int
 lo:Int
 hi:Int
 r:Bool
def uJ(l:List Int)(lo hi:Int):Prop:=∀x∈l,lo<=x/\x<=hi
structure rQ(s:aK):Prop where
 c1:1<=s.c
 c8:s.c<=8
 p1:1<=s.p
 p8:s.p<=8
 lv:(s.lv.length:Int)=s.p
 cl:(s.cl.length:Int)=s.p
 pz:s.pz.length<=8
 HY:uJ s.lv 0 9
 HZ:uJ s.cl 0 512
 H6:uJ s.pz 0 1048576
structure iq(s:aK)(x:ak):Prop where
 c0:0<=x.c
 c1:x.c<s.c
 p0:0<=x.p
 p1:x.p<s.p
 t0:0<=x.t
 t1:x.t<=32
 lo:0<=x.lo
 le:x.lo<=x.hi
 hi:x.hi<=1048576
structure yX(s:aK)(l:List ak):Prop where
 len:l.length<=32
 pg:fI s.pg
 sh:rQ s
 rs:∀x∈l,iq s x
open Classical in
noncomputable def dL(s:aK)(l:List ak):Int:=if 32<l.length then 2 else if¬fI s.pg then 520 else if¬(rQ s/\∀x∈l,iq s x)then 530 else 0
theorem SV{s:aK}{l:List ak}(h:32<l.length):dL s l=2:=by unfold dL;rw[if_pos h]
theorem SX{s:aK}{l:List ak}(h:¬32<l.length)(h2:¬fI s.pg):dL s l=520:=by unfold dL;rw[if_neg h,if_pos h2]
theorem ol{s:aK}{l:List ak}(h:¬32<l.length)(h2:fI s.pg)(h3:rQ s->(∀x∈l,iq s x)->False):dL s l=530:=by
 unfold dL;rw[if_neg h,if_neg (λk=>k h2),if_pos λk=>h3 k.1 k.2]
theorem Mm{s:aK}{l:List ak}(h:yX s l):dL s l=0:=by
 have:=h.len;unfold dL;rw[if_neg (by omega),if_neg (λk=>k h.pg),if_neg λk=>k ⟨h.sh,h.rs⟩]
theorem l7{s:aK}{l:List ak}(h:dL s l=0):yX s l:=by
 unfold dL at h;split at h
 ·cases h
 ·split at h
  ·cases h
  ·split at h
   ·cases h
   ·rename_i h1 h2 h3;have h3:=Classical.not_not.1 h3;exact⟨by omega,Classical.not_not.1 h2,h3.1,h3.2⟩
def jU(l:List ak)(p:Int)(i:Nat):Bool:=match l[i]? with
 |some x=>x.r&&decide (x.p=p)&&!((l.take i).any λy=>y.r&&decide (y.p=p)&&decide (y.c=x.c))
 |none=>false
def aO(l:List ak)(p:Int):List Nat:=(List.range l.length).filter (jU l p)
def fK(l:List ak)(p:Int)(n:Nat):List Nat:=(List.range n).filter (jU l p)
theorem Mo(l:List ak)(p:Int)(n:Nat):fK l p (n+1)=if jU l p n then fK l p n++[n]else fK l p n:=by
 unfold fK;rw[List.range_succ,List.filter_append];by_cases h:jU l p n
 ·rw[if_pos h,List.filter_cons_of_pos h];rfl
 ·rw[if_neg h,List.filter_cons_of_neg h];simp
theorem Mq{l:List ak}{p:Int}{n i:Nat}(h:i∈fK l p n):i<n/\jU l p i=true:=by
 have:=List.mem_filter.1 h;exact⟨List.mem_range.1 this.1,this.2⟩
theorem Mr(l:List ak)(p:Int)(n:Nat):(fK l p n).length<=n:=by
 have:=List.length_filter_le (jU l p) (List.range n);rw[List.length_range]at this;exact this
def dR:ak:=⟨0,0,0,0,0,false⟩
def add1(s:aK)(l:List ak)(p:Nat)(own:List Nat)(aF:List Int)(t:List Int)(n:Nat):List Int:=
 let x:=l.getD (own.getD n 0) dR
 t.set x.c.toNat (t.getD x.c.toNat 0+pts s.pg [aF.getD n 0,(own.length:Int),s.lv.getD p 0,s.cl.getD p 0,x.t])
def addN(s:aK)(l:List ak)(p:Nat)(own:List Nat)(aF:List Int)(t:List Int):Nat->List Int
 |0=>t
 |n+1=>add1 s l p own aF (addN s l p own aF t n) n
theorem adC(s:aK)(l:List ak)(p:Nat)(own:List Nat)(aF t:List Int)(n:Nat):(add1 s l p own aF t n).length=t.length:=by unfold add1;exact List.length_set
theorem Be(s:aK)(l:List ak)(p:Nat)(own:List Nat)(aF t:List Int):∀n,(addN s l p own aF t n).length=t.length
 |0=>rfl
 |n+1=>by rw[addN,adC,Be]
theorem adD{s:aK}{l:List ak}{p:Nat}{own:List Nat}{aF t:List Int}{n:Nat}{B:Int}(h:∀x∈t,0<=x/\x<=B)(hB:0<=B):∀x∈add1 s l p own aF t n,0<=x/\x<=B+1048576:=by
 intro x hx;unfold add1 at hx;dsimp only at hx;have hp:=Ml s.pg [aF.getD n 0,(own.length:Int),s.lv.getD p 0,s.cl.getD p 0,(l.getD (own.getD n 0) dR).t];generalize pts s.pg _=q at hx hp;generalize(l.getD (own.getD n 0) dR).c.toNat=k at hx;rcases List.mem_or_eq_of_mem_set hx with hx|hx
 ·have:=h x hx;omega
 ·have h0:0<=t.getD k 0/\t.getD k 0<=B:=by
   by_cases hk:k<t.length
   ·exact h _ (rP hk)
   ·rw[List.getD_eq_getElem?_getD,List.getElem?_eq_none (by omega)];exact⟨Int.le_refl _,hB⟩
  omega
theorem Dx{s:aK}{l:List ak}{p:Nat}{own:List Nat}{aF t:List Int}{B:Int}(h:∀x∈t,0<=x/\x<=B)(hB:0<=B):∀(n:Nat),∀x∈addN s l p own aF t n,0<=x/\x<=B+(n:Int)*1048576
 |0=>λx hx=>by have:=h x hx;omega
 |n+1=>λx hx=>by
  have:=adD (Dx h hB n) (by omega) x hx;omega
theorem adE{s:aK}{l:List ak}{p:Nat}{own:List Nat}{aF t z:List Int}{n:Nat}(h:(l.getD (own.getD n 0) dR).c.toNat<t.length):add1 s l p own aF (t++z) n=add1 s l p own aF t n++z:=by
 unfold add1;dsimp only;rw[List.set_append_left _ _ h,show∀k,k<t.length->(t++z).getD k 0=t.getD k 0 from λk hk=>by rw[List.getD_eq_getElem?_getD,List.getD_eq_getElem?_getD,List.getElem?_append_left hk]];exact h
theorem SY{s:aK}{l:List ak}{p:Nat}{own:List Nat}{aF t z:List Int}:∀{n:Nat},(∀i,i<n->(l.getD (own.getD i 0) dR).c.toNat<t.length)->addN s l p own aF (t++z) n=addN s l p own aF t n++z
 |0,_=>rfl
 |n+1,h=>by
  rw[addN,SY λi hi=>h i (by omega),adE (by rw[Be];exact h n (by omega))];rfl
def iw(s:aK)(l:List ak)(p:Nat)(aF t:List Int):List Int:=addN s l p (aO l p) aF t (aO l p).length
theorem Dy{s:aK}{l:List ak}(h:∀x∈l,iq s x){p:Int}{i:Nat}(hi:i<(aO l p).length):(aO l p).getD i 0<l.length/\iq s (l.getD ((aO l p).getD i 0) dR):=by
 have hm:(aO l p).getD i 0∈aO l p:=by rw[List.getD_eq_getElem?_getD,List.getElem?_eq_getElem hi];exact List.getElem_mem hi
 have hl:=(Mq (n:=l.length) hm).1;refine⟨hl,?_⟩;generalize(aO l p).getD i 0=j at hl;rw[List.getD_eq_getElem?_getD,List.getElem?_eq_getElem hl];exact h _ (List.getElem_mem hl)
theorem S9{s:aK}{l:List ak}(h:yX s l){p:Nat}{aF t z:List Int}(ht:(t.length:Int)=s.c):iw s l p aF (t++z)=iw s l p aF t++z:=by
 unfold iw;refine SY λi hi=>?_;have:=(Dy h.rs hi).2;have:=this.c0;have:=(Dy h.rs hi).2.c1;omega
def gT(s:aK)(l:List ak)(ts t:List Int):Nat->List Int
 |0=>t
 |n+1=>iw s l n (places ((aO l n).map λi=>ts.getD i 0)) (gT s l ts t n)
theorem xG(s:aK)(l:List ak)(ts t:List Int):∀n,(gT s l ts t n).length=t.length
 |0=>rfl
 |n+1=>by rw[gT,iw,Be,xG]
theorem Ta{s:aK}{l:List ak}(h:yX s l){ts t z:List Int}(ht:(t.length:Int)=s.c):∀n,gT s l ts (t++z) n=gT s l ts t n++z
 |0=>rfl
 |n+1=>by rw[gT,Ta h ht n,S9 h (by rw[xG];exact ht)];rfl
theorem Bf(l:List ak)(p:Int):(aO l p).length<=l.length:=Mr l p l.length
theorem Ms{s:aK}{l:List ak}(hl:l.length<=32){ts t:List Int}(ht:∀x∈t,x=0):∀(n:Nat),∀x∈gT s l ts t n,0<=x/\x<=(n:Int)*33554432
 |0=>λx hx=>by have:=ht x hx;omega
 |n+1=>λx hx=>by
  have h1:=Dx (Ms hl ht n) (by omega) _ x hx;have:=Bf l (n:Int);have h2:((aO l n).length:Int)*1048576<=32*1048576:=Int.mul_le_mul_of_nonneg_right (by omega) (by decide);omega
theorem Mt{ts:List Int}{x:Int}(h:x∈places ts):1<=x/\x<=1+ts.length:=by
 obtain⟨a,_,rfl⟩:=List.mem_map.1 h;have:=List.countP_le_length (p:=λb=>decide (b<a)) (l:=ts);omega
def l9(s:aK)(l:List ak)(ts:List Int):List Int:=gT s l ts (List.replicate s.c.toNat 0) s.p.toNat
def jV(l:List ak)(ts:List Int):Prop:=ts.length=l.length/\∀(i:Nat) x t,l[i]? =some x->ts[i]? =some t->x.lo<=t/\t<=x.hi
def iy(xs:List Int):List Int:=xs.map λn=>1+((xs.countP λm=>decide (n<m):Nat):Int)
end Rk
namespace Rk
def jK(l:List ak)(p:Int)(n:Nat):List Int:=(fK l p n).map λi=>(l.getD i dR).c
theorem Mv(l:List ak)(p:Int)(n:Nat):jK l p (n+1)=if jU l p n then jK l p n++[(l.getD n dR).c]else jK l p n:=by
 unfold jK;rw[Mo];split
 ·rw[List.map_append];rfl
 ·rfl
theorem Tc{l:List ak}{p:Int}{c:Int}:∀{n:Nat},n<=l.length->(c∈jK l p n↔((l.take n).any λy=>y.r&&decide (y.p=p)&&decide (y.c=c))=true)
 |0,_=>by simp[jK,fK]
 |n+1,h=>by
  have hx:l[n]? =some (l[n]'(by omega)):=List.getElem?_eq_getElem _;have ih:=Tc (l:=l) (p:=p) (c:=c) (n:=n) (by omega);have hg:l.getD n dR=l[n]'(by omega):=by rw[List.getD_eq_getElem?_getD,hx];rfl
  generalize l[n]'(by omega)=x at hx hg;rw[Mv,hg,eD hx,List.any_append];have hf:jU l p n=(x.r&&decide (x.p=p)&&!((l.take n).any λy=>y.r&&decide (y.p=p)&&decide (y.c=x.c))):=by unfold jU;rw[hx]
  rw[hf];by_cases h1:x.r=true/\x.p=p
  ·obtain⟨h1,h2⟩:=h1;by_cases hc:x.c=c
   ·subst hc;cases ha:(l.take n).any λy=>y.r&&decide (y.p=p)&&decide (y.c=x.c)with
    |true=>rw[if_neg (by simp)];rw[ih,ha];simp
    |false=>rw[if_pos (by simp[h1,h2])];simp[h1,h2]
   ·split
    ·rw[List.mem_append,ih];simp[hc,Ne.symm hc]
    ·rw[ih];simp[hc]
  ·have:(x.r&&decide (x.p=p))=false:=by
    cases hr:x.r with
    |false=>rfl
    |true=>simp;intro hp;exact h1 ⟨hr,hp⟩
   rw[if_neg (by rw[this];simp),ih];simp[this]
theorem Td{l:List ak}{p:Int}{n:Nat}{x:ak}(hx:l[n]? =some x):jU l p n=(x.r&&(decide (x.p=p)&&!decide (x.c∈jK l p n))):=by
 have hn:=(List.getElem?_eq_some_iff.1 hx).1;have hm:=Tc (l:=l) (p:=p) (c:=x.c) (n:=n) (by omega);unfold jU;rw[hx];dsimp only;rw[Bool.and_assoc];congr 3;cases ha:(l.take n).any λy=>y.r&&decide (y.p=p)&&decide (y.c=x.c)with
 |true=>rw[decide_eq_true (hm.2 ha)]
 |false=>rw[decide_eq_false λk=>by rw[hm.1 k]at ha;cases ha]
def ints(l:List Nat):List Int:=l.map λ(i:Nat)=>(i:Int)
theorem om(l:List Nat):(ints l).length=l.length:=List.length_map ..
theorem vP{l:List Nat}{k:Nat}{x:Int}(h:(ints l)[k]? =some x):∃i:Nat,l[k]? =some i/\x=(i:Int):=by
 unfold ints at h;rw[List.getElem?_map]at h;cases e:l[k]? with
 |none=>rw[e]at h;cases h
 |some i=>rw[e]at h;cases h;exact⟨i,rfl,rfl⟩
theorem Dz(l:List Nat)(i:Nat):ints (l++[i])=ints l++[(i:Int)]:=by unfold ints;rw[List.map_append];rfl
theorem len8{α:Type}{l:List α}(h:l.length=8):∃a b c d e f g k,l=[a,b,c,d,e,f,g,k]:=by
 match l,h with
 |[a,b,c,d,e,f,g,k],_=>exact⟨a,b,c,d,e,f,g,k,rfl⟩
def vQ(xs:List Int)(lo hi:Int):Bool:=!(xs.any λx=>decide (x<lo\/hi<x))
theorem mg{xs:List Int}{lo hi:Int}:vQ xs lo hi=true↔uJ xs lo hi:=by
 unfold vQ uJ;rw[Bool.not_eq_true',List.any_eq_false];constructor
 ·intro h x hx;have:=h x hx;simp at this;omega
 ·intro h x hx;have:=h x hx;simp;omega
theorem vR{xs:List Int}{lo hi:Int}(h:vQ xs lo hi=false):¬uJ xs lo hi:=λk=>by rw[mg.2 k]at h;cases h
theorem uK{x lo hi:Int}:uJ [x] lo hi↔lo<=x/\x<=hi:=by unfold uJ;simp
theorem Te{x y lo hi:Int}:uJ [x,y] lo hi↔(lo<=x/\x<=hi)/\lo<=y/\y<=hi:=by unfold uJ;simp
open Classical in
noncomputable def rR(s:aK)(l:List ak)(ts:List Int):Int:=if dL s l≠0 then dL s l else if¬jV l ts then 1 else 0
open Classical in
noncomputable def xH(s:aK)(l:List ak)(ts:List Int):List Int:=if rR s l ts=0 then l9 s l ts else[]
theorem H7{s:aK}{l:List ak}{ts:List Int}(h:dL s l≠0):rR s l ts=dL s l/\xH s l ts=[]:=by
 have e:rR s l ts=dL s l:=by unfold rR;rw[if_pos h]
 exact⟨e,by unfold xH;rw[if_neg (by rw[e];exact h)]⟩
theorem rT{s:aK}{l:List ak}{ts:List Int}(h:dL s l=0)(h2:¬jV l ts):rR s l ts=1/\xH s l ts=[]:=by
 have e:rR s l ts=1:=by unfold rR;rw[if_neg (by omega),if_pos h2]
 exact⟨e,by unfold xH;rw[if_neg (by omega)]⟩
theorem DC{s:aK}{l:List ak}{ts:List Int}(h:dL s l=0)(h2:jV l ts):rR s l ts=0/\xH s l ts=l9 s l ts:=by
 have e:rR s l ts=0:=by unfold rR;rw[if_neg (by omega),if_neg (λk=>k h2)]
 exact⟨e,by unfold xH;rw[if_pos e]⟩
def fT(l:List ak)(ts:List Int)(p:Int):List Int:=(aO l p).map λi=>ts.getD i 0
theorem H8(l:List ak)(ts:List Int)(p:Int):(fT l ts p).length=(aO l p).length:=List.length_map ..
theorem DD{l:List ak}{ts:List Int}{p:Int}{k i:Nat}(h:(aO l p)[k]? =some i):(fT l ts p)[k]? =some (ts.getD i 0):=by unfold fT;rw[List.getElem?_map,h];rfl
theorem Tf{ts:List Int}{k:Nat}{x:Int}(h:ts[k]? =some x):(places ts)[k]? =some (1+((ts.countP λb=>decide (b<x):Nat):Int)):=by unfold places;rw[List.getElem?_map,h];rfl
theorem vT{l:List ak}{p:Int}{k i:Nat}(h:(aO l p)[k]? =some i):i<l.length:=(Mq (n:=l.length) (List.mem_of_getElem? h)).1
theorem Tg{n m:Nat}(h:m<=n):List.replicate n (0:Int)=List.replicate m 0++List.replicate (n - m) 0:=by
 rw[List.replicate_append_replicate];congr 1;omega
end Rk
namespace En
def lD(l:List Int)(r:Int):Nat:=l.countP λx=>decide (x<r)
def jW(l:List Int)(r:Int):Nat:=l.countP λx=>decide (x=r)
def Ranks(l:List Int):Prop:=∀r∈l,(lD l r:Int)+1=r
def Mw(p:List Int):Prop:=∀x∈p,0<=x/\x<=1048576
def fA(l:List Int):Int:=l.foldl (·+·) 0
def blk(p:List Int)(a n:Nat):List Int:=(p.drop a).take n
def jX(p l:List Int)(r:Int):Int:=(fA (blk p (r - 1).toNat (jW l r))).tdiv (jW l r:Int)
theorem foldl_add:∀(l:List Int) (a:Int),l.foldl (·+·) a=a+l.foldl (·+·) 0
 |[],a=>by simp
 |x::l,a=>by
  rw[List.foldl_cons,List.foldl_cons,foldl_add l (a+x),foldl_add l (0+x)];omega
theorem Bg:fA []=0:=rfl
theorem xI(a:Int)(l:List Int):fA (a::l)=a+fA l:=by
 unfold fA;rw[List.foldl_cons,foldl_add];omega
theorem DF:∀a b:List Int,fA (a++b)=fA a+fA b
 |[],b=>by rw[List.nil_append,Bg];omega
 |x::a,b=>by rw[List.cons_append,xI,xI,DF a b];omega
theorem H9:∀{l:List Int},(∀x∈l,0<=x)->0<=fA l
 |[],_=>by rw[Bg];omega
 |x::l,h=>by
  rw[xI];have:=H9 (l:=l) (λy hy=>h y (List.mem_cons_of_mem _ hy));have:=h x (List.mem_cons_self ..);omega
theorem Ia{c:Int}:∀{l:List Int},(∀x∈l,x<=c)->fA l<=c*l.length
 |[],_=>by simp[Bg]
 |x::l,h=>by
  rw[xI,List.length_cons];have h1:=Ia (l:=l) (λy hy=>h y (List.mem_cons_of_mem _ hy));have h2:=h x (List.mem_cons_self ..);have:c*((l.length+1:Nat):Int)=c*(l.length:Int)+c:=by rw[Int.natCast_add,Int.mul_add];simp
  omega
theorem Ti{l:List Int}{r:Int}(h:r∈l):0<jW l r:=List.countP_pos_iff.2 ⟨r,h,by simp⟩
theorem adF(l:List Int)(r:Int):lD l r<=l.length:=List.countP_le_length
theorem adG(l:List Int)(r:Int):jW l r<=l.length:=List.countP_le_length
theorem adH{p:List Int}{a n:Nat}{x:Int}(h:x∈blk p a n):∃i,a<=i/\i<a+n/\p[i]? =some x:=by
 unfold blk at h;obtain⟨j,hj⟩:=List.getElem?_of_mem h;rw[List.getElem?_take]at hj;split at hj
 ·rw[List.getElem?_drop]at hj;exact⟨a+j,by omega,by omega,hj⟩
 ·cases hj
theorem adI{p:List Int}{a n:Nat}:(blk p a n).length=min n (p.length - a):=by
 unfold blk;rw[List.length_take,List.length_drop]
