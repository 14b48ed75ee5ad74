/-
  Places of results whose times lie in ranges: the search group by group finds each list of places that times lead to, once.
-/
import Init
set_option linter.all false
namespace Rk
def cnt(n:Nat)(p:Nat->Bool):Nat:=(List.range n).countP p
theorem AJ(n:Nat)(p:Nat->Bool):cnt (n+1) p=cnt n p+(if p n then 1 else 0):=by
 unfold cnt;rw[List.range_succ,List.countP_append,List.countP_singleton]
theorem JS{n:Nat}{p:Nat->Bool}(h:∀i,i<n->p i=false):cnt n p=0:=by
 induction n with
 |zero=>rfl
 |succ n ih=>rw[AJ,ih λi hi=>h i (by omega),h n (by omega)];rfl
theorem JU{n:Nat}{p q r:Nat->Bool}(h:∀i,i<n->r i=(p i||q i))(hd:∀i,i<n->p i=true->q i=false):cnt n r=cnt n p+cnt n q:=by
 induction n with
 |zero=>rfl
 |succ n ih=>
  rw[AJ,AJ,AJ,ih (λi hi=>h i (by omega)) (λi hi=>hd i (by omega)),h n (by omega)];have:=hd n (by omega);cases hp:p n<;>cases hq:q n
  ·simp
  ·simp;omega
  ·simp;omega
  ·rw[hp,hq]at this;simp at this
def mask(p:Nat->Bool):Nat->Nat
 |0=>0
 |n+1=>(if p n then 2^n else 0)+mask p n
theorem EY(p:Nat->Bool):∀n,mask p n<2^n
 |0=>by simp[mask]
 |n+1=>by
  have:=EY p n;rw[mask,Nat.pow_succ];split<;>omega
theorem JV(p:Nat->Bool):∀(n i:Nat),(mask p n).testBit i=(decide (i<n)&&p i)
 |0,i=>by simp[mask]
 |n+1,i=>by
  have ih:=JV p n;have hlt:=EY p n;rw[mask];by_cases hp:p n=true
  ·rw[if_pos hp];rcases Nat.lt_trichotomy i n with h|h|h
   ·rw[Nat.testBit_two_pow_add_gt h,ih];simp[h,Nat.lt_succ_of_lt h]
   ·subst h;rw[Nat.testBit_two_pow_add_eq,Nat.testBit_lt_two_pow hlt];simp[hp]
   ·rw[Nat.testBit_lt_two_pow (Nat.lt_of_lt_of_le (show 2^n+mask p n<2^(n+1)by rw[Nat.pow_succ];omega) (Nat.pow_le_pow_right (by omega) h))];simp[show¬i<n+1 by omega]
  ·rw[if_neg hp,Nat.zero_add,ih];rcases Nat.lt_trichotomy i n with h|h|h
   ·simp[h,Nat.lt_succ_of_lt h]
   ·subst h;simp at hp;simp[hp]
   ·simp[show¬i<n+1 by omega,show¬i<n by omega]
abbrev EZ:Int:=1048576
def lo(W:List (Int×Int))(i:Nat):Int:=(W.getD i (0,0)).1
def hi(W:List (Int×Int))(i:Nat):Int:=(W.getD i (0,0)).2
def yh(W:List (Int×Int))(fr:Int)(g:Nat):Nat->Int
 |0=>fr
 |i+1=>if g.testBit i then max (yh W fr g i) (lo W i)else yh W fr g i
def yj(W:List (Int×Int))(g:Nat):Nat->Int
 |0=>EZ
 |i+1=>if g.testBit i then min (yj W g i) (hi W i)else yj W g i
abbrev vM(W:List (Int×Int))(fr:Int)(g:Nat):Int:=yh W fr g W.length
abbrev JW(W:List (Int×Int))(g:Nat):Int:=yj W g W.length
abbrev gz(pl:List Int)(i:Nat):Bool:=decide (pl.getD i 0=0)
def clash(pl:List Int)(g n:Nat):Bool:=(List.range n).any λi=>g.testBit i&&!gz pl i
def JX(W:List (Int×Int))(pl:List Int)(fr:Int)(g:Nat):Bool:=!clash pl g W.length&&decide (vM W fr g<=JW W g)
def late(W:List (Int×Int))(pl:List Int)(fr:Int)(g:Nat):Bool:=(List.range W.length).any λi=>!g.testBit i&&gz pl i&&decide (hi W i<=vM W fr g)
def ol(pl:List Int)(dn:Nat)(g:Nat):List Int:=pl.mapIdx λi x=>if g.testBit i then(dn:Int)+1 else x
def many(W:List (Int×Int))(g:Nat):Nat:=cnt W.length λi=>g.testBit i
structure Real(W:List (Int×Int))(pl:List Int)(fr:Int)(dn:Nat)(ps:List Int):Prop where
 len:ps.length=W.length
 old:∀i,i<W.length->gz pl i=false->ps.getD i 0=pl.getD i 0
 new:∃t:Nat->Int,∀i,i<W.length->gz pl i=true->fr<=t i/\lo W i<=t i/\t i<=hi W i/\ps.getD i 0=dn+1+cnt W.length λk=>gz pl k&&decide (t k<t i)
structure AL(W:List (Int×Int))(pl:List Int)(fr:Int)(dn:Nat):Prop where
 len:pl.length=W.length
 tot:cnt W.length (gz pl)+dn=W.length
 top:∀i,i<W.length->hi W i<=EZ
theorem JY{W:List (Int×Int)}{fr v:Int}{g:Nat}(h0:fr<=v):∀{n:Nat},(∀i,i<n->g.testBit i=true->lo W i<=v)->yh W fr g n<=v
 |0,_=>h0
 |n+1,h=>by
  have ih:=JY (W:=W) h0 (n:=n) λi hi=>h i (by omega);rw[yh];split
  ·have:=h n (by omega) (by assumption);omega
  ·exact ih
theorem JZ{W:List (Int×Int)}{v:Int}{g:Nat}(h0:v<=EZ):∀{n:Nat},(∀i,i<n->g.testBit i=true->v<=hi W i)->v<=yj W g n
 |0,_=>h0
 |n+1,h=>by
  have ih:=JZ (W:=W) h0 (n:=n) λi hi=>h i (by omega);rw[yj];split
  ·have:=h n (by omega) (by assumption);omega
  ·exact ih
theorem J2{pl:List Int}{g n:Nat}:clash pl g n=false↔∀i,i<n->g.testBit i=true->gz pl i=true:=by
 unfold clash;rw[List.any_eq_false];constructor
 ·intro h i hi hb;have:=h i (List.mem_range.2 hi);rw[hb]at this;simpa using this
 ·intro h i hi;cases hb:g.testBit i with
  |false=>simp
  |true=>rw[h i (List.mem_range.1 hi) hb];simp
theorem TK{W:List (Int×Int)}{pl:List Int}{fr:Int}{g:Nat}:late W pl fr g=false↔∀i,i<W.length->g.testBit i=false->gz pl i=true->vM W fr g<hi W i:=by
 unfold late;rw[List.any_eq_false];constructor
 ·intro h i hi hb hf;have:=h i (List.mem_range.2 hi);rw[hb,hf]at this;simp at this;exact this
 ·intro h i hi;cases hb:g.testBit i with
  |true=>simp
  |false=>
   cases hf:gz pl i with
   |false=>simp
   |true=>
    have:=h i (List.mem_range.1 hi) hb hf;simp;omega
theorem J3{pl:List Int}{dn g i:Nat}(hi:i<pl.length):(ol pl dn g).getD i 0=if g.testBit i then(dn:Int)+1 else pl.getD i 0:=by
 unfold ol;rw[List.getD_eq_getElem?_getD,List.getElem?_mapIdx,List.getD_eq_getElem?_getD,List.getElem?_eq_getElem hi];rfl
theorem TL{pl:List Int}{dn g:Nat}:(ol pl dn g).length=pl.length:=by unfold ol;rw[List.length_mapIdx]
theorem vN{pl:List Int}{dn g i:Nat}(hi:i<pl.length):gz (ol pl dn g) i=(gz pl i&&!g.testBit i):=by
 show decide ((ol pl dn g).getD i 0=0)=_;rw[J3 hi];cases hb:g.testBit i with
 |true=>rw[if_pos rfl];simp;omega
 |false=>simp
section
variable {W:List (Int×Int)} {pl ps:List Int} {fr:Int} {dn g:Nat}
theorem AL.next(s:AL W pl fr dn)(hc:clash pl g W.length=false):AL W (ol pl dn g) (vM W fr g+1) (dn+many W g):=by
 have hc:=J2.1 hc;refine⟨by rw[TL,s.len],?_,s.top⟩;have h1:cnt W.length (gz pl)=cnt W.length (gz (ol pl dn g))+many W g:=JU (λi hi=>by
  rw[vN (by rw[s.len];exact hi)];cases hb:g.testBit i with
  |false=>simp
  |true=>rw[hc i hi hb];rfl) (λi hi h=>by
  rw[vN (by rw[s.len];exact hi)]at h;cases hb:g.testBit i with
  |false=>rfl
  |true=>rw[hb]at h;simp at h)
 have:=s.tot;omega
theorem exists_least(t:Nat->Int)(p:Nat->Bool):∀n,(∃i,i<n/\p i=true)->∃m,m<n/\p m=true/\∀i,i<n->p i=true->t m<=t i
 |0,⟨i,h,_⟩=>absurd h (Nat.not_lt_zero _)
 |n+1,h=>by
  by_cases he:∃i,i<n/\p i=true
  ·obtain⟨m,h1,h2,h3⟩:=exists_least t p n he;by_cases hn:p n=true/\t n<t m
   ·refine⟨n,by omega,hn.1,λi hi hp=>?_⟩;by_cases e:i=n
    ·subst e;exact Int.le_refl _
    ·have:=h3 i (by omega) hp;omega
   ·refine⟨m,by omega,h2,λi hi hp=>?_⟩;by_cases e:i=n
    ·subst e;by_cases h4:t i<t m
     ·exact absurd ⟨hp,h4⟩ hn
     ·omega
    ·exact h3 i (by omega) hp
  ·obtain⟨i,hi,hp⟩:=h;have e:i=n:=by
    by_cases e:i=n
    ·exact e
    ·exact absurd ⟨i,by omega,hp⟩ he
   subst e;refine⟨i,by omega,hp,λk hk hpk=>?_⟩;by_cases e:k=i
   ·subst e;exact Int.le_refl _
   ·exact absurd ⟨k,by omega,hpk⟩ he
theorem Real.next(s:AL W pl fr dn)(hdn:dn≠W.length)(r:Real W pl fr dn ps):∃g,0<g/\g<2^W.length/\JX W pl fr g=true/\late W pl fr g=false/\Real W (ol pl dn g) (vM W fr g+1) (dn+many W g) ps:=by
 obtain⟨t,ht⟩:=r.new;have hex:∃i,i<W.length/\gz pl i=true:=by
  by_cases h:∃i,i<W.length/\gz pl i=true
  ·exact h
  ·have h0:cnt W.length (gz pl)=0:=JS λi hi=>by
    cases e:gz pl i with
    |false=>rfl
    |true=>exact absurd ⟨i,hi,e⟩ h
   have:=s.tot;omega
 obtain⟨m,m1,m2,m3⟩:=exists_least t (gz pl) W.length hex;let p:Nat->Bool:=λi=>gz pl i&&decide (t i=t m)
 let g:=mask p W.length
 have hb:∀i,i<W.length->g.testBit i=p i:=λi hi=>by
  show(mask p W.length).testBit i=_;rw[JV];simp[hi]
 have hbf:∀i,i<W.length->g.testBit i=true->gz pl i=true/\t i=t m:=λi hi h=>by
  rw[hb i hi]at h;simpa[p]using h
 have hgm:g.testBit m=true:=by rw[hb m m1];simp only[p,m2,decide_true,Bool.and_self]
 have h0:0<g:=by
  rcases Nat.eq_zero_or_pos g with h|h
  ·rw[h,Nat.zero_testBit]at hgm;cases hgm
  ·exact h
 obtain⟨t1,t2,t3,_⟩:=ht m m1 m2;have XI:vM W fr g<=t m:=JY t1 λi hi hbi=>by
  obtain⟨q1,q2⟩:=hbf i hi hbi;have:=(ht i hi q1).2.1;omega
 have XJ:t m<=JW W g:=JZ (by have:=s.top m m1;omega) λi hi hbi=>by
  obtain⟨q1,q2⟩:=hbf i hi hbi;have:=(ht i hi q1).2.2.1;omega
 have hc:clash pl g W.length=false:=J2.2 λi hi hbi=>(hbf i hi hbi).1;have hlt:∀i,i<W.length->gz pl i=true->g.testBit i=false->t m<t i:=λi hi hf hbi=>by
  have h1:=m3 i hi hf;rw[hb i hi]at hbi;simp only[p,hf,Bool.true_and,decide_eq_false_iff_not]at hbi;omega
 refine⟨g,h0,EY _ _,?_,?_,?_⟩
 ·unfold JX;rw[hc];simp;omega
 ·refine TK.2 λi hi hbi hf=>?_;have:=hlt i hi hf hbi;have:=(ht i hi hf).2.2.1;omega
 ·refine⟨r.len,λi hi hf=>?_,t,λi hi hf=>?_⟩
  ·rw[J3 (by rw[s.len];exact hi)];rw[vN (by rw[s.len];exact hi)]at hf;cases hbi:g.testBit i with
   |true=>
    obtain⟨q1,q2⟩:=hbf i hi hbi;rw[if_pos rfl,(ht i hi q1).2.2.2,JS]
    ·simp
    ·intro k hk;cases TM:gz pl k with
     |false=>rfl
     |true=>have:=m3 k hk TM;simp;omega
   |false=>
    rw[hbi]at hf;exact r.old i hi (by simpa using hf)
  ·rw[vN (by rw[s.len];exact hi)]at hf;simp only[Bool.and_eq_true,Bool.not_eq_true']at hf;obtain⟨q1,q2⟩:=hf;obtain⟨a1,a2,a3,a4⟩:=ht i hi q1;have:=hlt i hi q1 q2;refine⟨by omega,a2,a3,?_⟩;rw[a4];have h2:cnt W.length (λk=>gz pl k&&decide (t k<t i))=many W g+cnt W.length λk=>gz (ol pl dn g) k&&decide (t k<t i):=by
    refine JU (λk hk=>?_) (λk hk h=>?_)
    ·rw[vN (by rw[s.len];exact hk)];cases hbk:g.testBit k with
     |true=>
      obtain⟨u1,u2⟩:=hbf k hk hbk;rw[u1,u2];simp;omega
     |false=>simp
    ·rw[vN (by rw[s.len];exact hk),h];simp
   rw[h2];omega
end
end Rk
namespace Rk
section
variable {W:List (Int×Int)} {pl ps:List Int} {fr:Int} {dn g:Nat}
def places(ts:List Int):List Int:=ts.map λa=>1+((ts.countP λb=>decide (b<a):Nat):Int)
theorem E5{ts:List Int}:(places ts).length=ts.length:=by unfold places;rw[List.length_map]
end
end Rk
namespace Rk
structure cO where
 op:Int
 n:Int
def aX(fl:List Bool)(w:cO):Option (List Bool):=
 if w.op=1 then(if 0<=w.n/\w.n<=1048576 then some (fl++[false])else none)
 else if w.op=2 then(if 0<=w.n/\w.n<5 then some (fl++[false])else none)
 else if w.n≠0 then none
 else if w.op=10 then(if 3<=fl.length/\fl[fl.length - 3]? =some true/\fl[fl.length - 2]? =some false/\fl[fl.length - 1]? =some false then some (fl.take (fl.length - 3)++[false])else none)
 else if 3<=w.op/\w.op<10 then(if 2<=fl.length/\fl[fl.length - 2]? =some false/\fl[fl.length - 1]? =some false then some (fl.take (fl.length - 2)++[decide (w.op=9)])else none)
 else none
def iG(ws:List cO):Option (List Bool):=ws.foldl (λo w=>o.bind λfl=>aX fl w) (some [])
theorem AO(ws:List cO)(w:cO):iG (ws++[w])=(iG ws).bind λfl=>aX fl w:=by
 unfold iG;rw[List.foldl_append];rfl
theorem J4{ws:List cO}:∀{vs:List cO},iG ws=none->iG (ws++vs)=none
 |[],h=>by rwa [List.append_nil]
 |v::vs,h=>by
  rw[show ws++v::vs=(ws++[v])++vs by simp];exact J4 (by rw[AO,h];rfl)
theorem E8{ws:List cO}{k:Nat}(h:iG (ws.take k)=none):iG ws=none:=by
 rw[<- List.take_append_drop k ws];exact J4 h
theorem eT{α:Type}{ws:List α}{k:Nat}{w:α}(h:ws[k]? =some w):ws.take (k+1)=ws.take k++[w]:=by
 rw[List.take_add_one,h];rfl
theorem AP{ws:List cO}{k:Nat}{w:cO}(h:ws[k]? =some w){fl:List Bool}(hf:iG (ws.take k)=some fl):iG (ws.take (k+1))=aX fl w:=by
 rw[eT h,AO,hf];rfl
theorem TN{fl jy:List Bool}{w:cO}(h:aX fl w=some jy):jy.length<=fl.length+1:=by
 unfold aX at h;repeat' split at h
 all_goals first|(cases h;done)|(injection h with h;subst h;simp;try omega)
theorem yl:∀(n:Nat) {ws:List cO} {fl:List Bool},ws.length=n->iG ws=some fl->fl.length<=n
 |0,ws,fl,hn,h=>by
  have:=List.length_eq_zero_iff.1 hn;subst this;cases h;exact Nat.le_refl _
 |n+1,ws,fl,hn,h=>by
  have hw:ws[n]? =some (ws[n]'(by omega)):=List.getElem?_eq_getElem _;have ht:=eT hw;rw[List.take_of_length_le (by omega)]at ht;rw[ht,AO]at h;cases e:iG (ws.take n)with
  |none=>rw[e]at h;cases h
  |some f0=>
   rw[e]at h;have h1:=yl n (by rw[List.length_take];omega) e;have h2:=TN (fl:=f0) h;omega
structure dD(ws:List cO):Prop where
 len:ws.length<=256
 fl:iG ws=some [false]
def hold(x:Int):Int:=max (-1099511627776) (min 1099511627776 x)
def jA(a b:Int):Int:=if b≠0/\(1099511627776:Int).tdiv (max b (-b))<max a (-a)then(if decide (a<0)≠decide (b<0)then -1099511627776 else 1099511627776)else a*b
def lH(a b:Int):Int:=if b=0 then 0 else if a.tmod b≠0/\decide (a<0)≠decide (b<0)then a.tdiv b - 1 else a.tdiv b
def iH(op a b:Int):Int:=
 if op=3 then hold (a+b)else if op=4 then hold (a - b)else if op=5 then jA a b else if op=6 then lH a b else if op=7 then min a b else if op=8 then max a b else if a<b then 1 else 0
def bW(x:Int):Prop:= -1099511627776<=x/\x<=1099511627776
theorem TP(x:Int):bW (hold x):=by unfold bW hold;omega
theorem J5{a b:Int}:bW (jA a b):=by
 unfold jA;split
 ·split<;>(unfold bW;omega)
 ·rename_i h;by_cases hb0:b=0
  ·subst hb0;rw[Int.mul_zero];unfold bW;omega
  have h1:max a (-a)<=(1099511627776:Int).tdiv (max b (-b)):=by
   apply Classical.byContradiction;intro hn;exact h ⟨hb0,by omega⟩
  have hbp:(0:Int)<max b (-b):=by omega
  rw[Int.tdiv_eq_ediv_of_nonneg (by decide)]at h1;have h2:max a (-a)*max b (-b)<=1099511627776:=(Int.le_ediv_iff_mul_le hbp).1 h1;have h3:max a (-a)=(a.natAbs:Int):=by omega
  have h4:max b (-b)=(b.natAbs:Int):=by omega
  rw[h3,h4,<- Int.natCast_mul,<- Int.natAbs_mul]at h2;unfold bW;omega
theorem J6{a b:Int}(ha:bW a)(hb:bW b):bW (lH a b):=by
 have hq:(a.tdiv b).natAbs<=a.natAbs:=by rw[Int.natAbs_tdiv];exact Nat.div_le_self _ _
 unfold bW at ha;unfold lH;split
 ·unfold bW;omega
 ·rename_i hb0;split
  ·rename_i h;obtain⟨h1,h2⟩:=h;by_cases hb1:b.natAbs=1
   ·exfalso
    have:b=1\/b= -1:=by omega
    rcases this with rfl|rfl
    ·exact h1 (by simp)
    ·exact h1 (by simp)
   ·have hq2:(a.tdiv b).natAbs<=a.natAbs/2:=by rw[Int.natAbs_tdiv];exact Nat.div_le_div_left (by omega) (by decide)
    unfold bW;omega
  ·unfold bW;omega
theorem TQ{op a b:Int}(ha:bW a)(hb:bW b):bW (iH op a b):=by
 unfold iH;repeat' split
 all_goals first
  |exact TP _
  |exact J5
  |exact J6 ha hb
  |(unfold bW at *;omega)
def kU(inp st:List Int)(w:cO):List Int:=
 if w.op=1 then st++[w.n]else if w.op=2 then st++[inp.getD w.n.toNat 0]
 else if w.op=10 then st.take (st.length - 3)++[if st.getD (st.length - 3) 0≠0 then st.getD (st.length - 2) 0 else st.getD (st.length - 1) 0]
 else st.take (st.length - 2)++[iH w.op (st.getD (st.length - 2) 0) (st.getD (st.length - 1) 0)]
def eF(inp:List Int)(ws:List cO):List Int:=ws.foldl (kU inp) []
theorem J7(inp:List Int)(ws:List cO)(w:cO):eF inp (ws++[w])=kU inp (eF inp ws) w:=by
 unfold eF;rw[List.foldl_append];rfl
theorem J8{inp:List Int}{ws:List cO}{k:Nat}{w:cO}(h:ws[k]? =some w):eF inp (ws.take (k+1))=kU inp (eF inp (ws.take k)) w:=by
 rw[eT h,J7]
structure tN(inp:List Int):Prop where
 len:inp.length=5
 E9:∀x∈inp,0<=x/\x<=1048576
theorem l9{st:List Int}{k:Nat}(h:k<st.length):st.getD k 0∈st:=by
 rw[List.getD_eq_getElem?_getD,List.getElem?_eq_getElem h];exact List.getElem_mem h
theorem TR{inp st:List Int}{fl jy:List Bool}{w:cO}(hi:tN inp)(h:aX fl w=some jy)(hl:st.length=fl.length)(hr:∀x∈st,bW x):(kU inp st w).length=jy.length/\∀x∈kU inp st w,bW x:=by
 have happ:∀{a:List Int} {y:Int},(∀x∈a,bW x)->bW y->∀x∈a++[y],bW x:=λha hy x hx=>by
  rcases List.mem_append.1 hx with hx|hx
  ·exact ha x hx
  ·rw[List.mem_singleton.1 hx];exact hy
 have htk:∀k,∀x∈st.take k,bW x:=λk x hx=>hr x (List.mem_of_mem_take hx);unfold aX at h;unfold kU;split at h
 ·rename_i h1;rw[if_pos h1];split at h
  ·cases h;exact⟨by simp[hl],happ hr (by unfold bW;omega)⟩
  ·cases h
 ·rename_i h1;rw[if_neg h1];split at h
  ·rename_i h2;rw[if_pos h2];split at h
   ·cases h;have:=hi.E9 _ (l9 (st:=inp) (k:=w.n.toNat) (by have:=hi.len;omega));exact⟨by simp[hl],happ hr (by unfold bW;omega)⟩
   ·cases h
  ·rename_i h2;rw[if_neg h2];split at h
   ·cases h
   ·split at h
    ·rename_i h3;rw[if_pos h3];split at h
     ·rename_i h4;cases h;refine⟨by simp;omega,happ (htk _) ?_⟩;split
      ·exact hr _ (l9 (by omega))
      ·exact hr _ (l9 (by omega))
     ·cases h
    ·rename_i h3;rw[if_neg h3];split at h
     ·split at h
      ·cases h;exact⟨by simp;omega,happ (htk _) (TQ (hr _ (l9 (by omega))) (hr _ (l9 (by omega))))⟩
      ·cases h
     ·cases h
theorem rz{inp:List Int}(hi:tN inp):∀(n:Nat) {ws:List cO} {fl:List Bool},ws.length=n->iG ws=some fl->(eF inp ws).length=fl.length/\∀x∈eF inp ws,bW x
 |0,ws,fl,hn,h=>by
  have:=List.length_eq_zero_iff.1 hn;subst this;cases h;exact⟨rfl,λx hx=>by cases hx⟩
 |n+1,ws,fl,hn,h=>by
  have hw:ws[n]? =some (ws[n]'(by omega)):=List.getElem?_eq_getElem _;have ht:=eT hw;rw[List.take_of_length_le (by omega)]at ht;rw[ht,AO]at h;rw[ht,J7];cases e:iG (ws.take n)with
  |none=>rw[e]at h;cases h
  |some f0=>
   rw[e]at h;obtain⟨h1,h2⟩:=rz hi n (by rw[List.length_take];omega) e;exact TR hi h h1 h2
theorem dD.take{ws:List cO}(h:dD ws)(k:Nat):∃fl,iG (ws.take k)=some fl:=by
 cases e:iG (ws.take k)with
 |none=>have:=h.fl;rw[E8 e]at this;cases this
 |some fl=>exact⟨fl,rfl⟩
theorem dD.step{ws:List cO}(h:dD ws){k:Nat}{w:cO}(hw:ws[k]? =some w):∃fl jy,iG (ws.take k)=some fl/\aX fl w=some jy:=by
 obtain⟨fl,h1⟩:=h.take k;obtain⟨jy,h2⟩:=h.take (k+1);exact⟨fl,jy,h1,by rw[<- AP hw h1];exact h2⟩
def pts(ws:List cO)(inp:List Int):Int:=max 0 (min 1048576 ((eF inp ws).getD 0 0))
theorem Fa(ws:List cO)(inp:List Int):0<=pts ws inp/\pts ws inp<=1048576:=by unfold pts;omega
structure dm where
 c:Int
 p:Int
 lv:List Int
 cl:List Int
 pg:List cO
 pz:List Int
structure bE where
 c:Int
 p:Int
 t:Int
 lo:Int
 hi:Int
 r:Bool
def om(l:List Int)(lo hi:Int):Prop:=∀x∈l,lo<=x/\x<=hi
structure ym(s:dm):Prop where
 c1:1<=s.c
 c8:s.c<=8
 p1:1<=s.p
 p8:s.p<=8
 lv:(s.lv.length:Int)=s.p
 cl:(s.cl.length:Int)=s.p
 pz:s.pz.length<=8
 AQ:om s.lv 0 9
 AU:om s.cl 0 512
 J9:om s.pz 0 1048576
structure rA(s:dm)(x:bE):Prop where
 c0:0<=x.c
 c1:x.c<s.c
 p0:0<=x.p
 p1:x.p<s.p
 t0:0<=x.t
 t1:x.t<=32
 lo:0<=x.lo
 le:x.lo<=x.hi
 hi:x.hi<=1048576
structure vO(s:dm)(l:List bE):Prop where
 len:l.length<=32
 pg:dD s.pg
 sh:ym s
 rs:∀x∈l,rA s x
open Classical in
noncomputable def fT(s:dm)(l:List bE):Int:=if 32<l.length then 2 else if¬dD s.pg then 520 else if¬(ym s/\∀x∈l,rA s x)then 530 else 0
theorem Ka{s:dm}{l:List bE}(h:32<l.length):fT s l=2:=by unfold fT;rw[if_pos h]
theorem Kb{s:dm}{l:List bE}(h:¬32<l.length)(h2:¬dD s.pg):fT s l=520:=by unfold fT;rw[if_neg h,if_pos h2]
theorem jY{s:dm}{l:List bE}(h:¬32<l.length)(h2:dD s.pg)(h3:ym s->(∀x∈l,rA s x)->False):fT s l=530:=by
 unfold fT;rw[if_neg h,if_neg (λk=>k h2),if_pos λk=>h3 k.1 k.2]
theorem Kc{s:dm}{l:List bE}(h:vO s l):fT s l=0:=by
 have:=h.len;unfold fT;rw[if_neg (by omega),if_neg (λk=>k h.pg),if_neg λk=>k ⟨h.sh,h.rs⟩]
theorem Fb{s:dm}{l:List bE}(h:fT s l=0):vO s l:=by
 unfold fT at h;split at h
 ·cases h
 ·split at h
  ·cases h
  ·split at h
   ·cases h
   ·rename_i h1 h2 h3;have h3:=Classical.not_not.1 h3;exact⟨by omega,Classical.not_not.1 h2,h3.1,h3.2⟩
def iI(l:List bE)(p:Int)(i:Nat):Bool:=match l[i]? with
 |some x=>x.r&&decide (x.p=p)&&!((l.take i).any λy=>y.r&&decide (y.p=p)&&decide (y.c=x.c))
 |none=>false
def aL(l:List bE)(p:Int):List Nat:=(List.range l.length).filter (iI l p)
def dI(l:List bE)(p:Int)(n:Nat):List Nat:=(List.range n).filter (iI l p)
theorem Fe(l:List bE)(p:Int)(n:Nat):dI l p (n+1)=if iI l p n then dI l p n++[n]else dI l p n:=by
 unfold dI;rw[List.range_succ,List.filter_append];by_cases h:iI l p n
 ·rw[if_pos h,List.filter_cons_of_pos h];rfl
 ·rw[if_neg h,List.filter_cons_of_neg h];simp
theorem Ke{l:List bE}{p:Int}{n i:Nat}(h:i∈dI l p n):i<n/\iI l p i=true:=by
 have:=List.mem_filter.1 h;exact⟨List.mem_range.1 this.1,this.2⟩
theorem Ff(l:List bE)(p:Int)(n:Nat):(dI l p n).length<=n:=by
 have:=List.length_filter_le (iI l p) (List.range n);rw[List.length_range]at this;exact this
def dR:bE:=⟨0,0,0,0,0,false⟩
def add1(s:dm)(l:List bE)(p:Nat)(own:List Nat)(aD:List Int)(t:List Int)(n:Nat):List Int:=
 let x:=l.getD (own.getD n 0) dR
 t.set x.c.toNat (t.getD x.c.toNat 0+pts s.pg [aD.getD n 0,(own.length:Int),s.lv.getD p 0,s.cl.getD p 0,x.t])
def addN(s:dm)(l:List bE)(p:Nat)(own:List Nat)(aD:List Int)(t:List Int):Nat->List Int
 |0=>t
 |n+1=>add1 s l p own aD (addN s l p own aD t n) n
theorem TS(s:dm)(l:List bE)(p:Nat)(own:List Nat)(aD t:List Int)(n:Nat):(add1 s l p own aD t n).length=t.length:=by unfold add1;exact List.length_set
theorem yn(s:dm)(l:List bE)(p:Nat)(own:List Nat)(aD t:List Int):∀n,(addN s l p own aD t n).length=t.length
 |0=>rfl
 |n+1=>by rw[addN,TS,yn]
theorem TT{s:dm}{l:List bE}{p:Nat}{own:List Nat}{aD t:List Int}{n:Nat}{B:Int}(h:∀x∈t,0<=x/\x<=B)(hB:0<=B):∀x∈add1 s l p own aD t n,0<=x/\x<=B+1048576:=by
 intro x hx;unfold add1 at hx;dsimp only at hx;have hp:=Fa s.pg [aD.getD n 0,(own.length:Int),s.lv.getD p 0,s.cl.getD p 0,(l.getD (own.getD n 0) dR).t];generalize pts s.pg _=q at hx hp;generalize(l.getD (own.getD n 0) dR).c.toNat=k at hx;rcases List.mem_or_eq_of_mem_set hx with hx|hx
 ·have:=h x hx;omega
 ·have h0:0<=t.getD k 0/\t.getD k 0<=B:=by
   by_cases hk:k<t.length
   ·exact h _ (l9 hk)
   ·rw[List.getD_eq_getElem?_getD,List.getElem?_eq_none (by omega)];exact⟨Int.le_refl _,hB⟩
  omega
theorem AV{s:dm}{l:List bE}{p:Nat}{own:List Nat}{aD t:List Int}{B:Int}(h:∀x∈t,0<=x/\x<=B)(hB:0<=B):∀(n:Nat),∀x∈addN s l p own aD t n,0<=x/\x<=B+(n:Int)*1048576
 |0=>λx hx=>by have:=h x hx;omega
 |n+1=>λx hx=>by
  have:=TT (AV h hB n) (by omega) x hx;omega
theorem TU{s:dm}{l:List bE}{p:Nat}{own:List Nat}{aD t z:List Int}{n:Nat}(h:(l.getD (own.getD n 0) dR).c.toNat<t.length):add1 s l p own aD (t++z) n=add1 s l p own aD t n++z:=by
 unfold add1;dsimp only;rw[List.set_append_left _ _ h,show∀k,k<t.length->(t++z).getD k 0=t.getD k 0 from λk hk=>by rw[List.getD_eq_getElem?_getD,List.getD_eq_getElem?_getD,List.getElem?_append_left hk]];exact h
theorem Kg{s:dm}{l:List bE}{p:Nat}{own:List Nat}{aD t z:List Int}:∀{n:Nat},(∀i,i<n->(l.getD (own.getD i 0) dR).c.toNat<t.length)->addN s l p own aD (t++z) n=addN s l p own aD t n++z
 |0,_=>rfl
 |n+1,h=>by
  rw[addN,Kg λi hi=>h i (by omega),TU (by rw[yn];exact h n (by omega))];rfl
def lI(s:dm)(l:List bE)(p:Nat)(aD t:List Int):List Int:=addN s l p (aL l p) aD t (aL l p).length
theorem AX{s:dm}{l:List bE}(h:∀x∈l,rA s x){p:Int}{i:Nat}(hi:i<(aL l p).length):(aL l p).getD i 0<l.length/\rA s (l.getD ((aL l p).getD i 0) dR):=by
 have hm:(aL l p).getD i 0∈aL l p:=by rw[List.getD_eq_getElem?_getD,List.getElem?_eq_getElem hi];exact List.getElem_mem hi
 have hl:=(Ke (n:=l.length) hm).1;refine⟨hl,?_⟩;generalize(aL l p).getD i 0=j at hl;rw[List.getD_eq_getElem?_getD,List.getElem?_eq_getElem hl];exact h _ (List.getElem_mem hl)
theorem TV{s:dm}{l:List bE}(h:vO s l){p:Nat}{aD t z:List Int}(ht:(t.length:Int)=s.c):lI s l p aD (t++z)=lI s l p aD t++z:=by
 unfold lI;refine Kg λi hi=>?_;have:=(AX h.rs hi).2;have:=this.c0;have:=(AX h.rs hi).2.c1;omega
def fD(s:dm)(l:List bE)(ts t:List Int):Nat->List Int
 |0=>t
 |n+1=>lI s l n (places ((aL l n).map λi=>ts.getD i 0)) (fD s l ts t n)
theorem rC(s:dm)(l:List bE)(ts t:List Int):∀n,(fD s l ts t n).length=t.length
 |0=>rfl
 |n+1=>by rw[fD,lI,yn,rC]
theorem Kh{s:dm}{l:List bE}(h:vO s l){ts t z:List Int}(ht:(t.length:Int)=s.c):∀n,fD s l ts (t++z) n=fD s l ts t n++z
 |0=>rfl
 |n+1=>by rw[fD,Kh h ht n,TV h (by rw[rC];exact ht)];rfl
theorem yo(l:List bE)(p:Int):(aL l p).length<=l.length:=Ff l p l.length
theorem Fg{s:dm}{l:List bE}(hl:l.length<=32){ts t:List Int}(ht:∀x∈t,x=0):∀(n:Nat),∀x∈fD s l ts t n,0<=x/\x<=(n:Int)*33554432
 |0=>λx hx=>by have:=ht x hx;omega
 |n+1=>λx hx=>by
  have h1:=AV (Fg hl ht n) (by omega) _ x hx;have:=yo l (n:Int);have h2:((aL l n).length:Int)*1048576<=32*1048576:=Int.mul_le_mul_of_nonneg_right (by omega) (by decide);omega
theorem Ki{ts:List Int}{x:Int}(h:x∈places ts):1<=x/\x<=1+ts.length:=by
 obtain⟨a,_,rfl⟩:=List.mem_map.1 h;have:=List.countP_le_length (p:=λb=>decide (b<a)) (l:=ts);omega
def mY(s:dm)(l:List bE)(ts:List Int):List Int:=fD s l ts (List.replicate s.c.toNat 0) s.p.toNat
def mZ(l:List bE)(ts:List Int):Prop:=ts.length=l.length/\∀(i:Nat) x t,l[i]? =some x->ts[i]? =some t->x.lo<=t/\t<=x.hi
def fU(xs:List Int):List Int:=xs.map λn=>1+((xs.countP λm=>decide (n<m):Nat):Int)
end Rk
namespace Rk
def iW(l:List bE)(p:Int)(n:Nat):List Int:=(dI l p n).map λi=>(l.getD i dR).c
theorem Kj(l:List bE)(p:Int)(n:Nat):iW l p (n+1)=if iI l p n then iW l p n++[(l.getD n dR).c]else iW l p n:=by
 unfold iW;rw[Fe];split
 ·rw[List.map_append];rfl
 ·rfl
theorem Kk{l:List bE}{p:Int}{c:Int}:∀{n:Nat},n<=l.length->(c∈iW l p n↔((l.take n).any λy=>y.r&&decide (y.p=p)&&decide (y.c=c))=true)
 |0,_=>by simp[iW,dI]
 |n+1,h=>by
  have hx:l[n]? =some (l[n]'(by omega)):=List.getElem?_eq_getElem _;have ih:=Kk (l:=l) (p:=p) (c:=c) (n:=n) (by omega);have hg:l.getD n dR=l[n]'(by omega):=by rw[List.getD_eq_getElem?_getD,hx];rfl
  generalize l[n]'(by omega)=x at hx hg;rw[Kj,hg,eT hx,List.any_append];have hf:iI l p n=(x.r&&decide (x.p=p)&&!((l.take n).any λy=>y.r&&decide (y.p=p)&&decide (y.c=x.c))):=by unfold iI;rw[hx]
  rw[hf];by_cases h1:x.r=true/\x.p=p
  ·obtain⟨h1,h2⟩:=h1;by_cases hc:x.c=c
   ·subst hc;cases ha:(l.take n).any λy=>y.r&&decide (y.p=p)&&decide (y.c=x.c)with
    |true=>rw[if_neg (by simp)];rw[ih,ha];simp
    |false=>rw[if_pos (by simp[h1,h2])];simp[h1,h2]
   ·split
    ·rw[List.mem_append,ih];simp[hc,Ne.symm hc]
    ·rw[ih];simp[hc]
  ·have:(x.r&&decide (x.p=p))=false:=by
    cases hr:x.r with
    |false=>rfl
    |true=>simp;intro hp;exact h1 ⟨hr,hp⟩
   rw[if_neg (by rw[this];simp),ih];simp[this]
theorem TW{l:List bE}{p:Int}{n:Nat}{x:bE}(hx:l[n]? =some x):iI l p n=(x.r&&(decide (x.p=p)&&!decide (x.c∈iW l p n))):=by
 have hn:=(List.getElem?_eq_some_iff.1 hx).1;have hm:=Kk (l:=l) (p:=p) (c:=x.c) (n:=n) (by omega);unfold iI;rw[hx];dsimp only;rw[Bool.and_assoc];congr 3;cases ha:(l.take n).any λy=>y.r&&decide (y.p=p)&&decide (y.c=x.c)with
 |true=>rw[decide_eq_true (hm.2 ha)]
 |false=>rw[decide_eq_false λk=>by rw[hm.1 k]at ha;cases ha]
def ints(l:List Nat):List Int:=l.map λ(i:Nat)=>(i:Int)
theorem vP(l:List Nat):(ints l).length=l.length:=List.length_map ..
theorem yu{l:List Nat}{k:Nat}{x:Int}(h:(ints l)[k]? =some x):∃i:Nat,l[k]? =some i/\x=(i:Int):=by
 unfold ints at h;rw[List.getElem?_map]at h;cases e:l[k]? with
 |none=>rw[e]at h;cases h
 |some i=>rw[e]at h;cases h;exact⟨i,rfl,rfl⟩
theorem Fh(l:List Nat)(i:Nat):ints (l++[i])=ints l++[(i:Int)]:=by unfold ints;rw[List.map_append];rfl
theorem len8{α:Type}{l:List α}(h:l.length=8):∃a b c d e f g k,l=[a,b,c,d,e,f,g,k]:=by
 match l,h with
 |[a,b,c,d,e,f,g,k],_=>exact⟨a,b,c,d,e,f,g,k,rfl⟩
def p9(xs:List Int)(lo hi:Int):Bool:=!(xs.any λx=>decide (x<lo\/hi<x))
theorem iX{xs:List Int}{lo hi:Int}:p9 xs lo hi=true↔om xs lo hi:=by
 unfold p9 om;rw[Bool.not_eq_true',List.any_eq_false];constructor
 ·intro h x hx;have:=h x hx;simp at this;omega
 ·intro h x hx;have:=h x hx;simp;omega
theorem qa{xs:List Int}{lo hi:Int}(h:p9 xs lo hi=false):¬om xs lo hi:=λk=>by rw[iX.2 k]at h;cases h
theorem oo{x lo hi:Int}:om [x] lo hi↔lo<=x/\x<=hi:=by unfold om;simp
theorem Kl{x y lo hi:Int}:om [x,y] lo hi↔(lo<=x/\x<=hi)/\lo<=y/\y<=hi:=by unfold om;simp
open Classical in
noncomputable def jZ(s:dm)(l:List bE)(ts:List Int):Int:=if fT s l≠0 then fT s l else if¬mZ l ts then 1 else 0
open Classical in
noncomputable def mg(s:dm)(l:List bE)(ts:List Int):List Int:=if jZ s l ts=0 then mY s l ts else[]
theorem AY{s:dm}{l:List bE}{ts:List Int}(h:fT s l≠0):jZ s l ts=fT s l/\mg s l ts=[]:=by
 have e:jZ s l ts=fT s l:=by unfold jZ;rw[if_pos h]
 exact⟨e,by unfold mg;rw[if_neg (by rw[e];exact h)]⟩
theorem mh{s:dm}{l:List bE}{ts:List Int}(h:fT s l=0)(h2:¬mZ l ts):jZ s l ts=1/\mg s l ts=[]:=by
 have e:jZ s l ts=1:=by unfold jZ;rw[if_neg (by omega),if_pos h2]
 exact⟨e,by unfold mg;rw[if_neg (by omega)]⟩
theorem AZ{s:dm}{l:List bE}{ts:List Int}(h:fT s l=0)(h2:mZ l ts):jZ s l ts=0/\mg s l ts=mY s l ts:=by
 have e:jZ s l ts=0:=by unfold jZ;rw[if_neg (by omega),if_neg (λk=>k h2)]
 exact⟨e,by unfold mg;rw[if_pos e]⟩
def eu(l:List bE)(ts:List Int)(p:Int):List Int:=(aL l p).map λi=>ts.getD i 0
theorem Km(l:List bE)(ts:List Int)(p:Int):(eu l ts p).length=(aL l p).length:=List.length_map ..
theorem Fj{l:List bE}{ts:List Int}{p:Int}{k i:Nat}(h:(aL l p)[k]? =some i):(eu l ts p)[k]? =some (ts.getD i 0):=by unfold eu;rw[List.getElem?_map,h];rfl
theorem Kn{ts:List Int}{k:Nat}{x:Int}(h:ts[k]? =some x):(places ts)[k]? =some (1+((ts.countP λb=>decide (b<x):Nat):Int)):=by unfold places;rw[List.getElem?_map,h];rfl
theorem Fp{l:List bE}{p:Int}{k i:Nat}(h:(aL l p)[k]? =some i):i<l.length:=(Ke (n:=l.length) (List.mem_of_getElem? h)).1
theorem TY{n m:Nat}(h:m<=n):List.replicate n (0:Int)=List.replicate m 0++List.replicate (n - m) 0:=by
 rw[List.replicate_append_replicate];congr 1;omega
