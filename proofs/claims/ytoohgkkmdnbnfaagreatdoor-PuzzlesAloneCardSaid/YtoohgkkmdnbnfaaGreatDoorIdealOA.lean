/-
  The ideal machine, 72: conversions between integers, shifts of unsigned ones; arrays of numbers as keys.
-/
import Derived.Test.YtoohgkkmdnbnfaaGreatDoorIdealNA
set_option linter.all false
namespace Go.Ideal
variable {P:Program}
theorem yo{ρ:Operand->Value}{src dst:TypeId}{x:Operand}{kk k:IntKind}{n m:Int}{ds:TypeDesc}(hs:P.underlying src=some ds)(hd:P.underlying dst=some (.int k))(hx:ρ x=.int kk n)(hw:k.wrap n=m):Pu P ρ (.conv src dst x) (.int k m):=λh=>by
 have h1:dX P (convert src dst (.int kk n))=some (.int k m):=by
  unfold convert;rw[gV,qG hs];simp only[iQ];rw[gV,qG hd];simp only[iQ];rw[<- hw];rfl
 simp only[aB.run,hx,jR,h1];rfl
theorem Mf{a:Nat}(h:a<18446744073709551616):IntKind.u64.wrap (a:Int)=a:=by
 show(let m:=(a:Int)%(2^64:Int);if false&&m>=(2^63:Int)then m - (2^64:Int)else m)=_;simp only[Bool.false_and,sF,if_false];rw[Int.emod_eq_of_lt (by omega) (by simpa using(by omega:(a:Int)<18446744073709551616))]
theorem Sc{ρ:Operand->Value}{x y:Operand}{t:TypeId}{a b:Nat}(hx:ρ x=.int .u64 (a:Int))(hy:ρ y=.int .u64 (b:Int))(hb:b<64):Pu P ρ (.bin .shr t x y) (.int .u64 ((a>>>b:Nat):Int)):=λh=>by
 have hv:dX P (binOp .shr t (.int .u64 (a:Int)) (.int .u64 (b:Int)))=some (.int .u64 ((a>>>b:Nat):Int)):=by
  show dX P (Op.shift .shr .u64 a .u64 b)=_;unfold Op.shift;rw[if_neg (by omega)];show some (Value.int .u64 ((a:Int).fdiv (2^(min (b:Int).toNat 64))))=_;rw[show min (b:Int).toNat 64=b by simp;omega,We];congr 2;rw[show((2:Int)^b)=((2^b:Nat):Int)by simp,Int.fdiv_eq_ediv_of_nonneg _ (Int.natCast_nonneg _)];simp
 have h1:jR P (do eqGuard .shr t x y (.int .u64 (a:Int)) (.int .u64 (b:Int));binOp .shr t (.int .u64 (a:Int)) (.int .u64 (b:Int)))=some (.int .u64 ((a>>>b:Nat):Int)):=by
  unfold jR;rw[gV,zG (by intro c e;cases e) (by intro e;cases e)];simp only[iQ,hv];rfl
 have h2:kL P .shr t x y (.int .u64 (a:Int)) (.int .u64 (b:Int))=some (.int .u64 ((a>>>b:Nat):Int)):=by
  unfold kL;have:(match pI .u64 .u64 with|true=>ol .shr .u64 (a:Int) (b:Int)|false=>none)=none:=rfl;simp only[pI,bQ,C9,cond];exact h1
 simp only[aB.run,hx,hy,h2]
theorem abM{α:Type}[DecidableEq α]{aX:α->Value}{kt:TypeId}{d:TypeDesc}(hu:P.underlying kt=some d)(hn:∀a b,Instr.sameNow d (aX a) (aX b)=none)(he:∀a b,dX P (Op.equal kt (aX a) (aX b))=some (decide (a=b)))(a:α)(ai:List (α×Value))(es:List MapEntry)(h:ow aX ai es):rz P kt (aX a) es=some (ou a ai 0):=by
 have abN:∀(ai:List (α×Value)) (es:List MapEntry) (i:Nat),ow aX ai es->dX P (Instr.findAsking kt (aX a) es i)=some (ou a ai i):=by
  intro ai;induction ai with
  |nil=>
   intro es i h;cases es with
   |nil=>rfl
   |cons e es=>cases h
  |cons p ai ih=>
   intro es i h;obtain⟨e,es',rfl,h1,h2,h3⟩:=LX h;unfold Instr.findAsking;rw[gV,h1,he];simp only[iQ];unfold ou;by_cases hab:a=p.1
   ·rw[dZ hab,if_pos hab,h2];rfl
   ·rw[aT hab,if_neg hab];exact ih es' (i+1) h3
 unfold rz Instr.findKey;rw[gV,qG hu];simp only[iQ];cases ai with
 |nil=>
  cases es with
  |nil=>rfl
  |cons e es=>cases h
 |cons p ai=>
  have h':=h;obtain⟨e,es',rfl,h1,h2,h3⟩:=LX h;have:Instr.findNow d (aX a) (e::es') 0=none:=by
   show(match Instr.sameNow d (aX a) e.key with
   |some true=>some (some (0,e.val))
   |some false=>Instr.findNow d (aX a) es' 1
   |none=>none)=_
   rw[h1,hn]
  rw[this];exact abN _ _ _ h'
abbrev zV:Int×Int->Value:=λp=>.agg ⟨[.int .i64 p.1,.int .i64 p.2]⟩
theorem abO{kt e:TypeId}(hu:P.underlying kt=some (.array 2 e))(he:P.underlying e=some (.int .i64))(hs:P.info? e|>.map (·.size)|>(·=some 1))(hc:∀a b:Int,qw P kt (.agg ⟨[.int .i64 a,.int .i64 b]⟩)=true):qJ P kt zV where
 EY a:=hc a.1 a.2
 find a ai es h:=abM hu (λa b=>rfl) (λa b=>by
  have:=R7 (d:=9998) (xs:=[a.1,a.2]) (ys:=[b.1,b.2]) hu he hs rfl rfl;rw[show decide (a=b)=decide ([a.1,a.2]=[b.1,b.2])from oJ.2 ⟨λh=>by rw[h],λh=>by
   injection h with h1 h2;injection h2 with h2;exact Prod.ext h1 h2⟩]
  exact this) a ai es h
 same a:=by
  show((⟨[Value.int .i64 a.1,.int .i64 a.2]⟩:Array Value).size==(⟨[Value.int .i64 a.1,.int .i64 a.2]⟩:Array Value).size&&(List.zip [Value.int .i64 a.1,.int .i64 a.2] [Value.int .i64 a.1,.int .i64 a.2]).all λ(x,y)=>Instr.sameBits 9999 x y)=true;simp[Instr.sameBits]
end Go.Ideal
namespace Go.Ideal
section
variable {P:Program}
variable {ds:List Tmp} {rest:List bT} {n:Nat} {l:List (Nat×Value)} {D:List Deferred} {pm:Option FrameMode} {ro:Option Nat} {h:IH} {K:KO} {d:Nat} {g:Option (Tmp×Bool)}
theorem Mg{op:aB}{v:Value}{h':IH}{re:List gZ}(hn:Nat.blt d n=true)(hg:bU l g=true)(hr:op.run P (ev l) h=some (v,h'))
 (hsm:∀q∈re,∃u h2,q.op.run P (ev ((d,v)::l)) h'=some (u,h2)/\∀d',q.dst=some d'->lk ((d,v)::l) d'=u)
 (next:aF P ds rest (act n ((d,v)::l) D pm ro) h' K):aF P ds (⟨⟨some d,g,op⟩,re⟩::rest) (act n l D pm ro) h K:=
 .kN (uB hg) v h' (by rw[mU];exact hr) (λq hq _=>by
  obtain⟨u,h2,e1,e2⟩:=hsm q hq;rw[oO hn];exact⟨u,h2,by rw[mU];exact e1,λd' hd=>by rw[<- e2 d' hd];exact tC _ _⟩) (by rw[oO hn];exact next)
theorem Sd{re:List gZ}{e:TypeId}{size bytes b o m k:Nat}{f:Option Nat}{s x:Operand}{old xs:List Value}(hn:Nat.blt d n=true)(hg:bU l g=true)
 (hs:ev l s=.slice (some ⟨b,o,f⟩) m m) (hx:ng (ev l x)=some (k+1)) (hxs:lZ size (k+1) (ev l x) h=some xs) (hold:h.gU b o (m*size)=some old)
 (hf:f=some 0\/f=some size) (hm:(m+(k+1))*bytes<=1073741824/\(m+(k+1))*size<=1073741824/\m+(k+1)<=1073741824)
 (hsm:∀h',zA h h' b (.cells (old++xs))->∀q∈re,∃u h2,q.op.run P (ev ((d,.slice (some ⟨h.next,0,some size⟩) (m+(k+1)) (m+(k+1)))::l)) h'=some (u,h2)/\∀d',q.dst=some d'->lk ((d,.slice (some ⟨h.next,0,some size⟩) (m+(k+1)) (m+(k+1)))::l) d'=u)
 (next:∀h',zA h h' b (.cells (old++xs))->aF P ds rest (act n ((d,.slice (some ⟨h.next,0,some size⟩) (m+(k+1)) (m+(k+1)))::l) D pm ro) h' K):
 aF P ds (⟨⟨some d,g,.append e size bytes s x⟩,re⟩::rest) (act n l D pm ro) h K:=by
 have hle:∀{a b:Nat},a<=b->Nat.ble a b=true:=λh=>by rw[pu];exact h
 have hlt:Nat.ble (m+(k+1)) m=false:=by
  cases hb:Nat.ble (m+(k+1)) m with
  |false=>rfl
  |true=>have:=jV hb;omega
 have hc:(Nat.ble (Nat.mul (m+(k+1)) bytes) small&&Nat.ble (Nat.mul (m+(k+1)) size) small&&Nat.ble (m+(k+1)) small)=true:=by
  rw[hle (show Nat.mul (m+(k+1)) bytes<=small from hm.1),hle (show Nat.mul (m+(k+1)) size<=small from hm.2.1),hle (show m+(k+1)<=small from hm.2.2)];rfl
 have hrun:∃h',(aB.append e size bytes s x).run P (ev l) h=some (.slice (some ⟨h.next,0,some size⟩) (m+(k+1)) (m+(k+1)),h')/\zA h h' b (.cells (old++xs)):=by
  have zB:vC size (k+1) (ev l x) h=some xs:=hxs;simp only[aB.run,hx,zB,hs,qp];have e1:lZ size m (.slice (some ⟨b,o,f⟩) m m) h=some old:=hold;show∃h',(cond (Nat.ble (Nat.mul (m+(k+1)) bytes) small&&Nat.ble (Nat.mul (m+(k+1)) size) small&&Nat.ble (m+(k+1)) small) _ _)=_/\_;rw[hc];show∃h',(cond (Nat.ble (m+(k+1)) m) _ _)=_/\_;rw[hlt];simp only[cond,e1];rcases hf with rfl|rfl
  ·refine⟨_,rfl,?_⟩;exact⟨rfl,λi hi _=>by rw[IH.iW,if_neg (by omega)],⟨uV _,by rw[IH.iW,if_pos rfl,jl]⟩,λ_=>rfl⟩
  ·cases size with
   |zero=>
    refine⟨_,rfl,?_⟩;exact⟨rfl,λi hi _=>by rw[IH.iW,if_neg (by omega)],⟨uV _,by rw[IH.iW,if_pos rfl,jl]⟩,λ_=>rfl⟩
   |succ j=>
    have hj:Nat.beq (Nat.succ j) (j+1)=true:=AL _;refine⟨(h.kill b).new (.cells (old++xs)),?_,?_⟩
    ·show cond (Nat.beq (Nat.succ j) (j+1)) _ _=_;rw[hj,jl];rfl
    ·exact⟨rfl,λi hi hb=>by rw[IH.iW,if_neg (by show i≠h.next;omega),IH.sO,if_neg hb],⟨uV _,by rw[IH.iW];exact if_pos rfl⟩,λhl=>by rw[IH.JW,IH.zm];omega⟩
 obtain⟨h',hr,hM⟩:=hrun;exact Mg hn hg hr (hsm h' hM) (next h' hM)
theorem abP{re:List gZ}{e:TypeId}{size bytes k c:Nat}{s x:Operand}{xs:List Value}(hn:Nat.blt d n=true)(hg:bU l g=true)
 (hs:ev l s=.slice none 0 0) (hx:ng (ev l x)=some (k+1)) (hxs:lZ size (k+1) (ev l x) h=some xs)
 (hm:(k+1)*bytes<=1073741824/\(k+1)*size<=1073741824/\(k+1)<=1073741824)
 (hsm:∀h',Agree h h'->At h' h.next (.cells xs)->h'.next=h.next+1->∀q∈re,∃u h2,q.op.run P (ev ((d,.slice (some ⟨h.next,0,some size⟩) (k+1) (k+1))::l)) h'=some (u,h2)/\∀d',q.dst=some d'->lk ((d,.slice (some ⟨h.next,0,some size⟩) (k+1) (k+1))::l) d'=u)
 (next:∀h',Agree h h'->At h' h.next (.cells xs)->h'.next=h.next+1->aF P ds rest (act n ((d,.slice (some ⟨h.next,0,some size⟩) (k+1) (k+1))::l) D pm ro) h' K):
 aF P ds (⟨⟨some d,g,.append e size bytes s x⟩,re⟩::rest) (act n l D pm ro) h K:=by
 have hle:∀{a b:Nat},a<=b->Nat.ble a b=true:=λh=>by rw[pu];exact h
 have e0:Nat.add 0 (k+1)=k+1:=eT _;refine Mg hn hg (h':=h.new (.cells xs)) ?_ (hsm _ (Lb _ _) (Lc _ _) rfl) (next _ (Lb _ _) (Lc _ _) rfl);have zB:vC size (k+1) (ev l x) h=some xs:=hxs;simp only[aB.run,hx,zB,hs,qp,e0];rw[hle (show Nat.mul (k+1) bytes<=small from hm.1),hle (show Nat.mul (k+1) size<=small from hm.2.1),hle (show k+1<=small from hm.2.2)];have e1:lZ size 0 (.slice none 0 0) h=some []:=by
  show(match (0:Nat)with|0=>some ([]:List Value)|_=>none)=_;rfl
 have e2:Nat.ble (k+1) 0=false:=rfl;simp only[C9,cond_true,e2,cond_false,e1,jl,bX]
end
section
variable {P:Program}
variable {ρ:Operand->Value}
variable {B:List Nat} {w0:Wd} {kl kl':List OA} {F:List aH} {a:aW} {K:KO}
variable {y:dx} {i j m0:Nat} {I:Nat->aW->IH->Prop} {ch:List PanicEntry}
variable {B:List Nat} {w0:Wd} {kl kl':List OA} {F:List aH} {K:KO} {ds:List Tmp} {rest:List bT} {n:Nat} {l:List (Nat×Value)} {D:List Deferred} {pm:Option FrameMode} {ro:Option Nat} {d:Nat} {g:Option (Tmp×Bool)}
theorem abQ{re:List gZ}{α:Type}{E:Enc α}{e:TypeId}{size bytes b':Nat}{s x:Operand}{v:Value}{xs:List α}{a:α}{y:E.Y}{cs:List Value}{k1 k2:List OA}(hn:Nat.blt d n=true)(hg:bU l g=true)
 (hs:ev l s=v) (hx:ev l x=.slice (some ⟨b',0,some 0⟩) 1 1) (hk:ay (ap E v xs) kl k1) (hc:ay (pt b' (.cells cs)) k1 k2) (hp:cs=E.pat a y) (hF:Sub (E.fs a y) F) (hz:E.n=size)
 (hm:(xs.length+1)*bytes<=1073741824/\(xs.length+1)*size<=1073741824/\xs.length+1<=1073741824)
 (hsm:∀ad,Same P re (ev ((d,.slice ad (xs.length+1) (xs.length+1))::l)) ((d,.slice ad (xs.length+1) (xs.length+1))::l) B w0 (ap E (.slice ad (xs.length+1) (xs.length+1)) (xs++[a])::k2) F)
 (r:∀ad,R (λh=>aF P ds rest (act n ((d,.slice ad (xs.length+1) (xs.length+1))::l) D pm ro) h K) B w0 (ap E (.slice ad (xs.length+1) (xs.length+1)) (xs++[a])::k2) F):
 R (λh=>aF P ds (⟨⟨some d,g,.append e size bytes s x⟩,re⟩::rest) (act n l D pm ro) h K) B w0 kl F:=by
 intro w st;subst hp hz;have hlen:=E.len a y;have st2:St B w0 (ap E v xs::pt b' (.cells (E.pat a y))::k2) F w:=st.jD (.cons hk (.cons hc .nil));have hat:At w.h b' (.cells (E.pat a y)):=st2.at_ (.there .here);have l7:St B w0 (ap E v xs::k2) F w:=(st2.fV (.there .here)).tail;have hfs:∀f∈E.fs a y,f.p w:=λf hf=>st.facts f (hF.mem f hf);have hread:w.h.gU b' 0 (1*E.n)=some (E.pat a y):=by
  rw[hat.c.gU,nu,ny,yZ,uX,if_pos (by omega),<- hlen,bK]
 have hx1:ng (ev l x)=some (0+1):=by rw[hx];rfl
 have hx2:lZ E.n (0+1) (ev l x) w.h=some (E.pat a y):=by rw[hx];exact hread
 -- what lies there afterwards
 have put:∀(w':Wd) (c:Nat) (f:Nat) (cells:List Value),cells.length=xs.length*E.n->(∀(k:Nat) z,xs[k]? =some z->∃y,(∀(j:Nat) u,(E.pat z y)[j]? =some u->cells[k*E.n+j]? =some u)/\∀f∈E.fs z y,f.p w')->(∀f∈E.fs a y,f.p w')->
  (f=0\/f=E.n)->∀S,(pt c (.cells (cells++E.pat a y))).p w' S->(ap E (.slice (some ⟨c,0,some f⟩) (xs.length+1) (xs.length+1)) (xs++[a])).p w' S:=by
  intro w' c f cells h1 h2 h3 h4 S hp;refine .inr ⟨c,0,f,_,by rw[fA];rfl,h4,hp.1,hp.2,by rw[fA,fA,h1,hlen,uY,pz,yZ,eT],λk z hk=>?_⟩;by_cases hlt:k<xs.length
  ·rw[kJ hlt]at hk;obtain⟨y',q1,q2⟩:=h2 k z hk;refine⟨y',λj u hj=>?_,q2⟩;rw[eT];have:=q1 j u hj;rw[kJ (bO.1 this).1];exact this
  ·rw[lX (by omega)]at hk;have hk0:k=xs.length:=by
    have:=(bO.1 hk).1;simp at this;omega
   subst hk0;simp at hk;subst hk;refine⟨y,λj u hj=>?_,h3⟩;rw[eT,lX (by omega),h1,JE];exact hj
 obtain⟨S,⟨S1,S2,q,q2,e1⟩,hnd,hown⟩:=l7.own;rcases q with⟨rfl,rfl,rfl⟩|⟨b,o,f,cells,rfl,hf,rfl,hb,hcl,hel⟩
 ·have key:∀h',Agree w.h h'->At h' w.h.next (.cells (E.pat a y))->h'.next=w.h.next+1->∃w':Wd,w'.h=h'/\St B w0 (ap E (.slice (some ⟨w.h.next,0,some E.n⟩) (([]:List α).length+1) (([]:List α).length+1)) ([]++[a])::k2) F w':=λh' ag vU hnx=>by
   obtain⟨w',rfl,iX⟩:=l7.tail.fresh ag vU hnx;refine⟨w',rfl,?_⟩;have hle:∀f∈E.fs a y,f.p w':=λf hf=>iX.facts f (hF.mem f hf);exact iX.xS λS hp=>put w' _ E.n [] (by simp) (λk z hk=>by cases hk) hle (.inr rfl) S hp
  refine abP (c:=0) hn hg hs hx1 hx2 (by simpa using hm) (λh' ag vU hnx=>?_) λh' ag vU hnx=>?_
  ·obtain⟨w',rfl,iX⟩:=key h' ag vU hnx;exact hsm _ w' iX
  ·obtain⟨w',rfl,iX⟩:=key h' ag vU hnx;exact r _ w' iX
 ·have xU:St B w0 (pt b (.cells cells)::k2) F w:=⟨l7.agree,l7.le,l7.fH,⟨S,⟨_,S2,⟨rfl,hb⟩,q2,e1⟩,hnd,hown⟩,l7.facts⟩
  have EM:At w.h b (.cells cells):=xU.at_ .here;have key:∀h',zA w.h h' b (.cells (cells.drop o++E.pat a y))->∃w':Wd,w'.h=h'/\St B w0 (ap E (.slice (some ⟨w.h.next,0,some E.n⟩) (xs.length+1) (xs.length+1)) (xs++[a])::k2) F w':=λh' mv=>by
   obtain⟨w',rfl,iX,xV⟩:=xU.move mv;refine⟨w',rfl,iX.xS λS hp=>?_⟩;have hle:∀f∈E.fs a y,f.p w':=λf hf=>iX.facts f (hF.mem f hf);refine put w' _ E.n (cells.drop o) (by rw[mK];omega) (λk z hk=>?_) hle (.inr rfl) S hp;obtain⟨y',u1,u2⟩:=hel k z hk;exact⟨y',λj u hj=>by rw[mX,<- og];exact u1 j u hj,λf hf=>f.mono xV (u2 f hf)⟩
  refine Sd (old:=cells.drop o) (xs:=E.pat a y) hn hg hs hx1 hx2 ?_ (hf.elim (λe=>.inl (by rw[e])) λe=>.inr (by rw[e])) hm (λh' mv=>?_) λh' mv=>?_
  ·have hdl:(cells.drop o).length=xs.length*E.n:=by rw[mK];omega
   rw[EM.c.gU,nu,ny,if_pos (by omega),<- hdl,bK]
  ·obtain⟨w',rfl,iX⟩:=key h' mv;exact hsm _ w' iX
  ·obtain⟨w',rfl,iX⟩:=key h' mv;exact r _ w' iX
end
section
variable {P:Program} {B:List Nat} {w0:Wd} {kl kl' bq:List OA} {F:List aH} {K:KO} {n:Nat} {l:List (Nat×Value)} {D:List Deferred} {pm:Option FrameMode} {ro:Option Nat}
theorem Sg{re:List gZ}{α:Type}(E:Enc α){ds:List Tmp}{rest:List bT}{d:Nat}{g:Option (Tmp×Bool)}{e:TypeId}{size bytes b':Nat}{s x:Operand}{v:Value}{xs:List α}(a:α)(y:E.Y){cs:List Value}{k1 k2:List OA}
 (hm:(xs.length+1)*bytes<=1073741824/\(xs.length+1)*size<=1073741824/\xs.length+1<=1073741824)
 (next:∀ad,R (λh=>aF P ds rest (act n ((d,.slice ad (xs.length+1) (xs.length+1))::l) D pm ro) h K) B w0 (ap E (.slice ad (xs.length+1) (xs.length+1)) (xs++[a])::k2) F)
 (hn:Nat.blt d n=true:=by rfl) (hg:bU l g=true:=by rfl)
 (hs:ev l s=v:=by conv=>lhs;whnf) (hx:ev l x=.slice (some ⟨b',0,some 0⟩) 1 1:=by rfl) (hk:ay (ap E v xs) kl k1:=by exact gD) (hc:ay (pt b' (.cells cs)) k1 k2:=by exact gD) (hp:cs=E.pat a y:=by rfl) (hF:Sub (E.fs a y) F:=by exact lJ) (hz:E.n=size:=by rfl)
 (hsm:∀ad,Same P re (ev ((d,.slice ad (xs.length+1) (xs.length+1))::l)) ((d,.slice ad (xs.length+1) (xs.length+1))::l) B w0 (ap E (.slice ad (xs.length+1) (xs.length+1)) (xs++[a])::k2) F:=by intro _;repeat (first|exact zH|refine zI rfl (by repeat (first|with_reducible exact ay.here|with_reducible apply ay.there|with_reducible apply ay.app)) (by first|exact rfl|(conv=>lhs;whnf)) rfl ?_|refine BD rfl (by(repeat (first|with_reducible exact cZ .. |with_reducible apply cO));first|done|fail) (by first|exact rfl|(conv=>lhs;whnf)) rfl ?_|refine BF rfl (by(repeat (first|with_reducible exact cZ .. |with_reducible apply cO));first|done|fail) (by first|exact rfl|(conv=>lhs;whnf)) rfl ?_|refine BG rfl (by repeat (first|with_reducible exact ay.here|with_reducible apply ay.there|with_reducible apply ay.app)) (by first|exact rfl|(conv=>lhs;whnf)) rfl ?_|refine BH rfl (by(repeat (first|with_reducible exact cZ .. |with_reducible apply cO));first|done|fail) (by first|exact rfl|(conv=>lhs;whnf)) rfl ?_|refine BI rfl (by(repeat (first|with_reducible exact cZ .. |with_reducible apply cO));first|done|fail) (by first|exact rfl|(conv=>lhs;whnf)) rfl ?_|refine LF (by first|((with_reducible apply Em);(focus ((conv=>lhs;whnf);(first|done|fail))))|((with_reducible apply En);(focus ((conv=>lhs;whnf);(first|done|fail))))|((with_reducible apply Es);(focus exact rfl))|((with_reducible apply Eu);(focus exact rfl);(focus exact rfl))|((with_reducible apply Ew);(focus exact rfl);(focus exact rfl))|((with_reducible apply Ex);(focus exact rfl);(focus exact rfl))|((with_reducible apply Ey);(focus exact rfl);(focus exact rfl))|((with_reducible apply Ez);(focus exact rfl);(focus exact rfl))|((with_reducible apply EA);(focus exact rfl);(focus exact rfl))|((with_reducible apply Er);(focus exact rfl))|((with_reducible apply Eo);(focus exact rfl);(focus ((conv=>lhs;whnf);(first|done|fail))))|((with_reducible apply Ep);(focus exact rfl);(focus ((conv=>lhs;whnf);(first|done|fail))))|((with_reducible apply EC);(focus exact rfl);(focus ((conv=>lhs;whnf);(first|done|fail))))|((with_reducible apply ED);(focus exact rfl))|((with_reducible apply EE);(focus exact rfl);(focus ((conv=>lhs;whnf);(first|done|fail))))|((with_reducible apply EF);(focus exact rfl);(focus ((conv=>lhs;whnf);(first|done|fail))))|((with_reducible apply EG);(focus ((conv=>lhs;whnf);(first|done|fail))))|((with_reducible apply EH);(focus exact rfl))|((with_reducible apply EI);(focus exact rfl))|((with_reducible apply EJ);(focus exact rfl))|with_reducible exact Et|((with_reducible apply EK);(focus exact rfl);(focus exact rfl);(focus exact rfl))|((with_reducible apply ET);(focus exact rfl);(focus exact rfl);(focus ((omega);(first|done|fail))))|((with_reducible apply BC);(focus exact rfl);(focus exact rfl);(focus ((omega);(first|done|fail)));(focus ((omega);(first|done|fail))))|((with_reducible apply EL);(focus exact rfl);(focus exact rfl);(focus ((omega);(first|done|fail)));(focus ((omega);(first|done|fail))))|((with_reducible apply zF);(focus exact rfl);(focus exact rfl);(focus ((omega);(first|done|fail)));(focus ((omega);(first|done|fail))))|((with_reducible apply EB);(focus exact rfl);(focus exact rfl);(focus ((omega);(first|done|fail)));(focus ((omega);(first|done|fail))))|((with_reducible apply EN);(focus exact rfl);(focus exact rfl);(focus ((first|assumption|kernel_rfl);(first|done|fail))))|((with_reducible apply EO);(focus exact rfl);(focus exact rfl);(focus ((first|assumption|kernel_rfl);(first|done|fail))))|((with_reducible apply EP);(focus exact rfl);(focus exact rfl))|((with_reducible apply EQ);(focus exact rfl);(focus exact rfl))|((with_reducible apply ES);(focus exact rfl);(focus exact rfl);(focus ((omega);(first|done|fail)));(focus ((omega);(first|done|fail))))) rfl ?_)):
 R (λh=>aF P ds (⟨⟨some d,g,.append e size bytes s x⟩,re⟩::rest) (act n l D pm ro) h K) B w0 kl F:=
 abQ hn hg hs hx hk hc hp hF hz hm hsm next
end
end Go.Ideal
namespace Go.Ideal
variable {P:Program}
section
variable {α κ:Type} [DecidableEq κ] {aX:κ->Value} {E:Enc α}
def nD(E:Enc α):List (κ×Value)->List (κ×List α)->List OA
 |p::ai,q::m=>ap E p.2 q.2::nD E ai m
 |_,_=>[]
def rV(E:Enc α)(n:κ):List (κ×Value)->List (κ×List α)->List OA
 |p::ai,q::m=>if n=p.1 then nD E ai m else ap E p.2 q.2::rV E n ai m
 |_,_=>[]
def Ff(aX:κ->Value)(E:Enc α)(b:Nat)(m:List (κ×List α)):OA:=
 ⟨λw S=>∃ai:List (κ×Value),ai.map (·.1)=m.map (·.1)/\fB w (gP aX b ai::nD E ai m) S,λa h ⟨ai,h1,h2⟩=>⟨ai,h1,fB.loc a h h2⟩⟩
def Si(E:Enc α)(n:κ)(ai:List (κ×Value))(m:List (κ×List α)):OA:=⟨λw S=>fB w (rV E n ai m) S,λa h hp=>fB.loc a h hp⟩
def Sj(E:Enc α)(ai:List (κ×Value))(m:List (κ×List α)):OA:=⟨λw S=>fB w (nD E ai m) S,λa h hp=>fB.loc a h hp⟩
def Sk(E:Enc α)(ai:List (κ×Value))(m:List (κ×List α)):aH:=
 ⟨λw=>∀n v xs,dJ n ai=some v->dJ n m=some xs->(ah E v xs).p w,λa h n v xs h1 h2=>(ah E v xs).mono a (h n v xs h1 h2)⟩
theorem Mh{β γ:Type}{n:κ}:∀{ai:List (κ×β)} {m:List (κ×γ)},ai.map (·.1)=m.map (·.1)->(dJ n ai=none↔dJ n m=none)
 |[],[],_=>⟨λ_=>rfl,λ_=>rfl⟩
 |(a,u)::ai,(b,x)::m,h=>by
  rw[gQ,gQ]at h;injection h with h1 h2;have h1:a=b:=h1;subst h1;unfold dJ;by_cases e:n=a
  ·rw[if_pos e,if_pos e];exact⟨λh=>(nomatch h),λh=>(nomatch h)⟩
  ·rw[if_neg e,if_neg e];exact Mh h2
 |[],_::_,h=>by cases h
 |_::_,[],h=>by cases h
theorem Sl{n:κ}:∀{ai:List (κ×Value)} {m:List (κ×List α)},dJ n ai=none->rV E n ai m=nD E ai m
 |[],_,_=>by unfold rV nD;rfl
 |_::_,[],_=>by unfold rV nD;rfl
 |(a,u)::ai,(b,x)::m,h=>by
  unfold dJ at h;by_cases e:n=a
  ·rw[if_pos e]at h;cases h
  ·rw[if_neg e]at h;unfold rV nD;rw[if_neg e,Sl h]
theorem Mi{n:κ}{v:Value}{xs:List α}:∀{ai:List (κ×Value)} {m:List (κ×List α)},ai.map (·.1)=m.map (·.1)->dJ n ai=some v->dJ n m=some xs->ay (ap E v xs) (nD E ai m) (rV E n ai m)
 |[],_,_,h,_=>by cases h
 |_::_,[],h,_,_=>by cases h
 |(a,u)::ai,(b,x)::m,h,h1,h2=>by
  rw[gQ,gQ]at h;injection h with e1 e2;have e1:a=b:=e1;subst e1;unfold dJ at h1 h2;unfold nD rV;by_cases e:n=a
  ·rw[if_pos e]at h1 h2⊢;cases h1;cases h2;exact .here
  ·rw[if_neg e]at h1 h2⊢;exact .there (Mi e2 h1 h2)
theorem Sm{n:κ}{v:Value}{xs:List α}:∀{ai:List (κ×Value)} {m:List (κ×List α)},ai.map (·.1)=m.map (·.1)->ay (ap E v xs) (nD E (upd n v ai) (upd n xs m)) (rV E n ai m)
 |[],[],_=>by unfold upd rV nD nD;exact .here
 |[],_::_,h=>by cases h
 |_::_,[],h=>by cases h
 |(a,u)::ai,(b,x)::m,h=>by
  rw[gQ,gQ]at h;injection h with e1 e2;have e1:a=b:=e1;subst e1;unfold upd rV;by_cases e:n=a
  ·rw[if_pos e,if_pos e,if_pos e];rw[show nD E ((n,v)::ai) ((n,xs)::m)=ap E v xs::nD E ai m from rfl];exact .here
  ·rw[if_neg e,if_neg e,if_neg e];rw[show nD E ((a,u)::upd n v ai) ((a,x)::upd n xs m)=ap E u x::nD E (upd n v ai) (upd n xs m)from rfl];exact .there (Sm e2)
theorem Fg{β γ:Type}{n:κ}{v:β}{x:γ}:∀{ai:List (κ×β)} {m:List (κ×γ)},ai.map (·.1)=m.map (·.1)->(upd n v ai).map (·.1)=(upd n x m).map (·.1)
 |[],[],_=>rfl
 |[],_::_,h=>by cases h
 |_::_,[],h=>by cases h
 |(a,u)::ai,(b,y)::m,h=>by
  rw[gQ,gQ]at h;injection h with e1 e2;have e1:a=b:=e1;subst e1;unfold upd;by_cases e:n=a
  ·rw[if_pos e,if_pos e,gQ,gQ,e2]
  ·rw[if_neg e,if_neg e,gQ,gQ,Fg e2]
variable {B:List Nat} {w0:Wd} {kl kl' bq k1 k2:List OA} {F:List aH} {Q:IH->Prop} {b:Nat} {m:List (κ×List α)}
theorem abR(E:Enc α)(h:R Q B w0 (Ff aX E b ([]:List (κ×List α))::kl') F)(hk:ay (gP aX b []) kl kl':=by exact gD):R Q B w0 kl F:=
 .perm (λw S hS=>by
  obtain⟨S',⟨T1,T2,u1,u2,e⟩,hp⟩:=hS.fV hk;exact⟨S',⟨T1,T2,⟨[],rfl,T1,[],u1,rfl,by simp⟩,u2,e⟩,hp⟩) h
theorem abS(n:κ)(hk:ay (Ff aX E b m) kl kl':=by exact gD)
 (h:∀(ai:List (κ×Value)) (v:Value),ai.map (·.1)=m.map (·.1)->kD false (.slice none 0 0) n ai=v->R Q B w0 (gP aX b ai::ap E v ((dJ n m).getD [])::Si E n ai m::kl') F):R Q B w0 kl F:=λw s=>by
 obtain⟨S,⟨S1,S2,⟨ai,hkeys,T1,T2,u1,u2,e1⟩,q2,e⟩,hnd,hall⟩:=(s.fV hk).own;have key:∃T',fB w (ap E (kD false (.slice none 0 0) n ai) ((dJ n m).getD [])::rV E n ai m) T'/\T2.Perm T':=by
  cases hl:dJ n ai with
  |none=>
   have hm:=(Mh (n:=n) hkeys).1 hl;have e1:kD false (.slice none 0 0) n ai=.slice none 0 0:=by unfold kD;rw[hl];rfl
   rw[e1,hm,Sl hl];exact⟨T2,⟨[],T2,.inl ⟨rfl,rfl,rfl⟩,u2,rfl⟩,.refl _⟩
  |some v=>
   cases hm:dJ n m with
   |none=>rw[(Mh (n:=n) hkeys).2 hm]at hl;cases hl
   |some xs=>
    have e1:kD false (.slice none 0 0) n ai=v:=by unfold kD;rw[hl];rfl
    rw[e1];exact u2.fV (Mi hkeys hl hm)
 obtain⟨T',⟨T3,T4,u3,u4,e3⟩,hp⟩:=key;subst e e1 e3;have hperm:((T1++T2)++S2).Perm (T1++(T3++(T4++S2))):=by
  rw[fE];refine List.Perm.append_left T1 ?_;rw[<- fE];exact List.Perm.append_right S2 hp
 exact h ai _ hkeys rfl w ⟨s.agree,s.le,s.fH,⟨_,⟨T1,_,u1,⟨T3,_,u3,⟨T4,S2,u4,q2,rfl⟩,rfl⟩,rfl⟩,hperm.nodup hnd,λi hi=>hall i (hperm.mem_iff.2 hi)⟩,s.facts⟩
theorem abT(n:κ){ai:List (κ×Value)}{v:Value}{xs:List α}(hkeys:ai.map (·.1)=m.map (·.1))(h:R Q B w0 (Ff aX E b (upd n xs m)::bq) F)
 (h1:ay (gP aX b (upd n v ai)) kl k1:=by exact gD) (h2:ay (ap E v xs) k1 k2:=by exact gD) (h3:ay (Si E n ai m) k2 bq:=by exact gD):R Q B w0 kl F:=
 .perm (λw S hS=>by
  obtain⟨S1,S2,q1,q2,hp⟩:=hS.jD (.cons h1 (.cons h2 (.cons h3 .nil)));obtain⟨T1,U1,u1,⟨T2,U2,u2,⟨T3,U3,u3,u4,e3⟩,e2⟩,e1⟩:=q1;have u4:U3=[]:=u4;subst u4 e3 e2 e1;obtain⟨V,v1,v2⟩:=fB.LK (Sm (E:=E) (n:=n) (v:=v) (xs:=xs) hkeys) (S:=T2++T3) (w:=w) ⟨T2,T3,u2,u3,rfl⟩;refine⟨(T1++V)++S2,⟨T1++V,S2,⟨upd n v ai,Fg hkeys,⟨T1,V,u1,v1,rfl⟩⟩,q2,rfl⟩,hp.trans ?_⟩;rw[gy];exact List.Perm.append_right S2 (List.Perm.append_left T1 v2)) h
theorem abU(h:∀ai:List (κ×Value),ai.map (·.1)=m.map (·.1)->R Q B w0 (gP aX b ai::Sj E ai m::kl') F)(hk:ay (Ff aX E b m) kl kl':=by exact gD):R Q B w0 kl F:=λw s=>by
 obtain⟨S,⟨S1,S2,⟨ai,hkeys,T1,T2,u1,u2,e1⟩,q2,e⟩,hnd,hall⟩:=(s.fV hk).own;subst e e1;refine h ai hkeys w ⟨s.agree,s.le,s.fH,⟨T1++(T2++S2),⟨T1,_,u1,⟨T2,S2,u2,q2,rfl⟩,rfl⟩,?_,λi hi=>hall i ?_⟩,s.facts⟩
 ·rw[<- fE];exact hnd
 ·rw[fE];exact hi
theorem abV{ai:List (κ×Value)}(hkeys:ai.map (·.1)=m.map (·.1)):tK (Sj E ai m) [Sk E ai m]:=by
 intro w w' S hS hle hh hz f hf;rw[bH.1 hf];have hS:fB w (nD E ai m) S:=hS;clear hf;intro n v xs h1 h2;obtain⟨S',⟨T1,T2,u1,_,e⟩,hp⟩:=hS.fV (Mi hkeys h1 h2);subst e;exact gH w w' T1 u1 hle hh (λi hi=>hz i (hp.mem_iff.2 (jP _ hi))) _ (bH.2 rfl)
end
end Go.Ideal
namespace Go.Ideal
variable {P:Program} {B:List Nat} {w0:Wd} {kl kl' bq:List OA} {F:List aH} {K:KO} {ds:List Tmp} {rest:List bT} {n:Nat} {l:List (Nat×Value)} {D:List Deferred} {pm:Option FrameMode} {ro:Option Nat} {d:Nat} {g:Option (Tmp×Bool)}
theorem Ij{α:Type}(E:Enc α){x i:Operand}{v:Value}{xss:List (List α)}(k:Nat)(xs:List α){kk:IntKind}{d2:Nat}{g2:Option (Tmp×Bool)}(hz:xss[k]? =some xs)
 (next:∀b o u,R (λh=>aF P ds rest (act n ((d2,u)::(d,.pointer (some ⟨b,o,none⟩))::l) D pm ro) h K) B w0 kl (ah E u xs::F))
 (hn:Nat.blt d n=true:=by rfl) (hg:bU l g=true:=by rfl) (hn2:Nat.blt d2 n=true:=by rfl) (hg2:∀u,bU ((d,u)::l) g2=true:=by intro _;rfl) (hx:ev l x=v:=by conv=>lhs;whnf) (hi:ev l i=.int kk (k:Int):=by rfl)
 (hk:ay (ap (aj E) v xss) kl kl':=by exact gD):
 R (λh=>aF P ds (⟨⟨some d,g,.lY 1 x i⟩,[]⟩::⟨⟨some d2,g2,.gK (.tmp d)⟩,[]⟩::rest) (act n l D pm ro) h K) B w0 kl F:=by
 intro w s;have s1:=s.fV hk;obtain⟨S,⟨S1,S2,p,p2,e⟩,h2,h3⟩:=s1.own;have hlt:=(bO.1 hz).1;rcases p with⟨h,_⟩|⟨b,o,f,cells,e1,hf,e2,hb,hcl,hel⟩
 ·rw[h]at hz;cases hz
 ·subst e1;obtain⟨y,u1,u2⟩:=hel k xs hz;have hc:cells[o+(k:Int).toNat*1]? =some y:=by
   have:=u1 0 y rfl;simpa[aj]using this
  refine Lh hn hg hx hi (by omega) (by omega) ?_;have hbS:b∈S:=by rw[e,e2];simp
  refine Ho hn2 (hg2 _) (by show lk _ d=_;simp[lk]) ⟨(h3 b hbS).2.1,hb⟩ hc (next _ _ y w ⟨s.agree,s.le,s.fH,s.own,λf hf=>?_⟩);rcases dF.1 hf with rfl|hf
  ·exact u2 _ (bH.2 rfl)
  ·exact s.facts f hf
end Go.Ideal
namespace Go.Ideal
variable {P:Program} {B:List Nat} {w0:Wd} {kl kl' bq k1 k2:List OA} {F:List aH} {Q:IH->Prop}
section
variable {β:Type} (A:Value->β->OA)
def rW(vs:List Value)(xss:List β):List OA:=(vs.zip xss).map λp=>A p.1 p.2
def nE(b:Nat)(xss:List β):OA:=
 ⟨λw S=>∃vs:List Value,vs.length=xss.length/\fB w (pt b (.cells vs)::rW A vs xss) S,λa h ⟨vs,h1,h2⟩=>⟨vs,h1,fB.loc a h h2⟩⟩
def Sn(vs:List Value)(xss:List β)(k:Nat):OA:=
 ⟨λw S=>fB w ((rW A vs xss).eraseIdx k) S,λa h hp=>fB.loc a h hp⟩
theorem Sq{vs:List Value}{xss:List β}{k:Nat}{v:Value}{xs:β}(hv:vs[k]? =some v)(hx:xss[k]? =some xs):(rW A vs xss)[k]? =some (A v xs):=by
 simp[rW,List.zip,eZ,List.getElem?_zipWith,hv,hx]
theorem Sr{b:Nat}{xss:List β}{k:Nat}{xs:β}(hx:xss[k]? =some xs)(hk:ay (nE A b xss) kl kl':=by exact gD)
 (h:∀(vs:List Value) (v:Value),vs.length=xss.length->vs[k]? =some v->R Q B w0 (pt b (.cells vs)::A v xs::Sn A vs xss k::kl') F):R Q B w0 kl F:=λw s=>by
 obtain⟨S,⟨S1,S2,⟨vs,h1,h2⟩,q2,e⟩,hnd,hall⟩:=(s.fV hk).own;subst e;have hlt:=(bO.1 hx).1;have hv:vs[k]? =some (vs[k]'(by omega)):=cB (by omega);refine h vs _ h1 hv w ?_;have hg:(rW A vs xss)[k]? =some (A (vs[k]'(by omega)) xs):=Sq A hv hx;obtain⟨T1,T2,u1,u2,e⟩:=h2;obtain⟨T3,⟨T4,T5,u4,u5,e5⟩,u6⟩:=u2.fV (ay.at hg);subst e5 e;have hperm:((T1++T2)++S2).Perm (T1++(T4++(T5++S2))):=by
  rw[fE];refine List.Perm.append_left T1 ?_;rw[<- fE];exact List.Perm.append_right S2 u6
 exact⟨s.agree,s.le,s.fH,⟨T1++(T4++(T5++S2)),⟨T1,_,u1,⟨T4,_,u4,⟨T5,S2,u5,q2,rfl⟩,rfl⟩,rfl⟩,hperm.nodup hnd,λi hi=>hall i (hperm.mem_iff.2 hi)⟩,s.facts⟩
theorem abW{vs:List Value}{xss:List β}{k:Nat}{v:Value}{xs:β}:rW A (vs.set k v) (xss.set k xs)=(rW A vs xss).set k (A v xs):=by
 apply jW;intro j;simp only[rW,eZ,uZ,List.zip,List.getElem?_zipWith];by_cases e:k=j
 ·subst e;by_cases h1:k<vs.length
  ·by_cases h2:k<xss.length
   ·simp[h1,h2];omega
   ·simp[h1,h2];omega
  ·simp[h1];omega
 ·simp[e]
theorem Su{b:Nat}{xss:List β}{vs:List Value}{k:Nat}{v:Value}{xs:β}(hlen:vs.length=xss.length)(hk:k<xss.length)(h1:ay (pt b (.cells (vs.set k v))) kl k1:=by exact gD)
 (h2:ay (A v xs) k1 k2:=by exact gD) (h3:ay (Sn A vs xss k) k2 bq:=by exact gD) (h:R Q B w0 (nE A b (xss.set k xs)::bq) F):R Q B w0 kl F:=
 .perm (λw S hS=>by
  obtain⟨S1,S2,q1,q2,hp⟩:=hS.jD (.cons h1 (.cons h2 (.cons h3 .nil)));obtain⟨T1,U1,u1,⟨T2,U2,u2,⟨T3,U3,u3,u4,e3⟩,e2⟩,e1⟩:=q1;have u4:U3=[]:=u4;subst u4 e3 e2 e1;have hl:((rW A vs xss).set k (A v xs))[k]? =some (A v xs):=by
   rw[uZ,if_pos rfl,if_pos (by simp[rW];omega)]
  obtain⟨V,v1,v2⟩:=fB.LK (ay.at hl) (S:=T2++T3) (w:=w) ⟨T2,T3,u2,by rw[Re];exact u3,rfl⟩;refine⟨(T1++V)++S2,⟨T1++V,S2,⟨vs.set k v,by simp[hlen],⟨T1,V,u1,by rw[abW];exact v1,rfl⟩⟩,q2,rfl⟩,hp.trans ?_⟩;rw[gy];exact List.Perm.append_right S2 (List.Perm.append_left T1 v2)) h
theorem abX{b m:Nat}{v0:Value}{x0:β}(h0:∀w,(A v0 x0).p w [])(hk:ay (pt b (.cells (List.replicate m v0))) kl kl':=by exact gD)(h:R Q B w0 (nE A b (List.replicate m x0)::kl') F):R Q B w0 kl F:=
 .perm (λw S hS=>by
  obtain⟨S',⟨T1,T2,u1,u2,e⟩,hp⟩:=hS.fV hk;refine⟨S',⟨T1,T2,⟨List.replicate m v0,by simp,⟨T1,[],u1,?_,by simp⟩⟩,u2,e⟩,hp⟩;have:∀m,fB w (rW A (List.replicate m v0) (List.replicate m x0)) []:=by
   intro m;induction m with
   |zero=>rfl
   |succ m ih=>exact⟨[],[],h0 w,ih,rfl⟩
  exact this m) h
theorem abY{E:Enc β}{b c:Nat}{xss:List β}(fv:Value->E.Y)(hn:E.n=1)(hpat:∀x v,E.pat x (fv v)=[v])(hA:∀v xs,tK (A v xs) (E.fs xs (fv v)))(hc:xss.length<=c:=by first|exact bJ _|omega):tK (nE A b xss) [ah E (.slice (some ⟨b,0,some 0⟩) xss.length c) xss]:=by
 intro w w' S ⟨vs,hlen,T1,T2,⟨h1,h2⟩,u2,e⟩ hle hh hz f hf;subst e;rw[bH.1 hf];refine .inr ⟨b,0,0,c,vs,⟨rfl,hc,.inl rfl⟩,⟨hz b (by rw[h1];simp),.inl (by rw[hh];exact h2)⟩,λk xs hk=>?_⟩;have hlt:=(bO.1 hk).1;have hv:vs[k]? =some (vs[k]'(by omega)):=cB (by omega);have hg:(rW A vs xss)[k]? =some (A (vs[k]'(by omega)) xs):=Sq A hv hk;obtain⟨T3,⟨T4,T5,u4,u5,e5⟩,u6⟩:=u2.fV (ay.at hg);subst e5;refine⟨fv (vs[k]'(by omega)),λj u hj=>?_,λg hgm=>?_⟩
 ·rw[hpat]at hj;match j,hj with
  |0,hj=>
   cases hj;show vs[0+k*E.n+0]? =_;rw[hn];simp
 ·exact hA _ _ w w' T4 u4 hle hh (λi hi=>hz i (mJ _ (u6.mem_iff.2 (jP _ hi)))) g hgm
end
def Ik{α:Type}(v:Value)(xs:List α):aH:=⟨λ_=>xs=[]->v=.slice none 0 0,λ_ h=>h⟩
def kS{α:Type}(E:Enc α)(v:Value)(xs:List α):OA:=⟨λw S=>(ap E v xs).p w S/\(xs=[]->v=.slice none 0 0),λa h hp=>⟨(ap E v xs).loc a h hp.1,hp.2⟩⟩
def rX{α:Type}(E:Enc α):Enc (List α):=⟨1,Value,λ_ v=>[v],λxs v=>[ah E v xs,Ik v xs],λ_ _=>rfl⟩
theorem abZ{α:Type}{E:Enc α}{v:Value}{xs:List α}:tK (kS E v xs) [ah E v xs,Ik v xs]:=by
 intro w w' S hp hle hh hz f hf;rcases dF.1 hf with rfl|hf
 ·exact gH w w' S hp.1 hle hh hz _ (bH.2 rfl)
 ·rw[bH.1 hf];exact hp.2
theorem Sv{α:Type}(E:Enc α)(v:Value)(xs:List α)(h:(xs=[]->v=.slice none 0 0)->R Q B w0 (ap E v xs::kl') F)(hk:ay (kS E v xs) kl kl':=by exact gD):R Q B w0 kl F:=λw s=>by
 obtain⟨S,⟨S1,S2,q1,q2,e⟩,h2,h3⟩:=(s.fV hk).own;exact h q1.2 w ⟨s.agree,s.le,s.fH,⟨S,⟨S1,S2,q1.1,q2,e⟩,h2,h3⟩,s.facts⟩
theorem Sw{α:Type}(E:Enc α)(v:Value)(xs:List α)(hz:xs=[]->v=.slice none 0 0)(h:R Q B w0 (kS E v xs::kl') F)(hk:ay (ap E v xs) kl kl':=by exact gD):R Q B w0 kl F:=λw s=>
 h w ((s.fV hk).BB (A:=ap E v xs) λw S hp=>⟨hp,hz⟩)
theorem Sy{α:Type}{E:Enc α}{v:Value}{xss:List (List α)}{w:Wd}(h:(ah (rX E) v xss).p w):(ah (aj E) v xss).p w:=by
 rcases h with h|⟨i,o,f,c,cells,h1,h2,h3⟩
 ·exact .inl h
 ·refine .inr ⟨i,o,f,c,cells,h1,h2,λk x hk=>?_⟩;obtain⟨y,q1,q2⟩:=h3 k x hk;exact⟨y,q1,λf hf=>q2 f (by rw[bH.1 hf];exact cZ ..)⟩
theorem Cb{A A':OA}(e:A=A')(h:R Q B w0 (A'::kl') F)(hk:ay A kl kl':=by exact gD):R Q B w0 kl F:=by
 subst e;exact λw s=>h w (s.fV hk)
theorem St.Sz{α:Type}{E:Enc α}{v:Value}{az:List (α×E.Y)}{w:Wd}(h0:0<az.length)(hall:(p9 E az).p w)(s:St B w0 (ar E v az::kl') F w):St B w0 (ap E v (az.map (·.1))::kl') F w:=by
 obtain⟨S,⟨S1,S2,q1,q2,e⟩,h2,h3⟩:=s.own;refine⟨s.agree,s.le,s.fH,⟨S,⟨S1,S2,?_,q2,e⟩,h2,h3⟩,s.facts⟩;rcases q1 with⟨h4,_⟩|⟨b,f,h4,h5,h6,h7⟩
 ·rw[h4]at h0;simp at h0
 ·refine .inr ⟨b,0,f,_,by rw[bR];exact h4,h5,h6,h7,by rw[wh,bR,eT],λk x hk=>?_⟩;rw[eZ]at hk;cases hp:az[k]? with
  |none=>rw[hp]at hk;cases hk
  |some p=>
   rw[hp]at hk;cases hk;exact⟨p.2,λj u hj=>by rw[eT];exact wm hp hj,λf hf=>hall p (bG hp) f hf⟩
theorem ab0{α:Type}{E:Enc α}{v:Value}{az:List (α×E.Y)}(h0:0<az.length)(h:R Q B w0 (ap E v (az.map (·.1))::kl') F)(hfs:∀w,(∀f∈F,f.p w)->(p9 E az).p w)(hk:ay (ar E v az) kl kl':=by exact gD):R Q B w0 kl F:=λw s=>
 h w (St.Sz h0 (hfs w s.facts) (s.fV hk))
end Go.Ideal
namespace Go.Ideal
variable {P:Program}
def Mj{α:Type}(P:Program)(vals:α->List Value)(fe:α->List aH)(fn:Fn)(first cap:List Value)(F:List aH)(X:List α->Prop):Prop:=
 ∀(S:Type) (inv:S->List OA) (ok:List α->S->Prop) (step:S->α->S×Bool) (s0:S) (uH:Fn) (y1 y2:List Value) (F':List aH),ok [] s0->
  (∀vs s x rest,ok vs s->X (vs++x::rest)->(step s x).2=true->ok (vs++[x]) (step s x).1)->
  (∀vs s x rest,ok vs s->X (vs++x::rest)->bi P uH (y1++vals x) y2 (inv s) (fe x++F') (λ_:Unit=>.bool (step s x).2) (λ_=>inv (step s x).1) (λ_=>[]) (λ_=>True))->
  bi P fn (first++[.func uH ⟨y1⟩ ⟨y2⟩]) cap (inv s0) (F++F') (λ_:List α=>.tuple ⟨[]⟩) (λxs=>inv (gT step s0 xs)) (λ_=>[]) X
theorem bi.facts{Y:Type}{fn:Fn}{args cap:List Value}{kl:List OA}{F F2:List aH}{val:Y->Value}{kl':Y->List OA}{fs:Y->List aH}{pr:Y->Prop}(h:bi P fn args cap kl F val kl' fs pr)(hF:∀f∈F,f∈F2):bi P fn args cap kl F2 val kl' fs pr:=
 λB w s=>h B w ⟨s.agree,s.le,s.fH,s.own,λf hf=>s.facts f (hF f hf)⟩
section
variable {B:List Nat} {w0:Wd} {kl kl' bq:List OA} {F:List aH} {K:KO} {n:Nat} {l:List (Nat×Value)} {D:List Deferred} {pm:Option FrameMode} {ro:Option Nat}
theorem ab1{S α Z:Type}{f:Operand}{ps:List Tmp}{assign body:dx}{fn:Fn}{first captured:List Value}{vals:α->List Value}{fe:α->List aH}{F1:List aH}{X:List α->Prop}(step:S->α->S×Out)(inv:S->List OA)(ok:List α->S->Prop)(s0:S)(h0:ok [] s0)
 (hok:∀vs s x rest,ok vs s->X (vs++x::rest)->(step s x).2=.normal->ok (vs++[x]) (step s x).1) (hit:Mj P vals fe fn first captured F1 X)
 (hf:ev l f=.func fn ⟨first⟩ ⟨captured⟩) (hps:ps.all (λp=>Nat.blt p n)=true) (hlen:∀x,ps.length=(vals x).length) (hk:aI (inv s0) kl bq) (hF:Sub F1 F) (jo:∀s x,zK (step s x).2)
 (l3:α->Z->List (Nat×Value)) (k3:α->Z->List OA)
 (ha:∀(s:S) (x:α) (lo:Nat) (o:dG) B w0,R (λh=>EV P assign (act n ((ps.zip (vals x)).reverse++l) [] none (some lo)) h (BU B w0 n (l3 x) lo o (λz=>k3 x z++inv s) (fe x++F))) B w0 (pt lo o::inv s) (fe x++F))
 (hb:∀(vs:List α) (s:S) (x:α) (rest:List α) (z:Z) (lo:Nat) (L:mZ) B w0,ok vs s->X (vs++x::rest)->R (λh=>EV P body (act n (l3 x z) [] none (some lo)) h (zM B w0 lo L (λ_:Unit=>(step s x).2) (λ_=>inv (step s x).1) (λ_=>[]) (λ_=>True))) B w0 (pt lo (.loop (uE L))::(k3 x z++inv s)) (fe x++F))
 (next:∀r xs,X xs->R (λh=>K (jr step s0 xs).2 (act n l ({target:=.collected r,args:= #[]}::D) pm none) h) B w0 (inv (jr step s0 xs).1++(pt r (.ig true)::bq)) F):
 R (λh=>EV P (.rangeFunc f ps assign body) (act n l D pm none) h K) B w0 kl F:=by
 refine Q8 (Y:=List α) (k1:=inv s0) (F1:=F1++F) (H6:=λ_=>.tuple ⟨[]⟩) (out:=λxs=>(jr step s0 xs).2) (k1':=λxs=>inv (jr step s0 xs).1) (fs:=λ_=>[]) (pr:=X) hf ?_ hk (hF.app (Sub.refl' F [])) (λr y hy=>next r y hy);intro lo r;have:=hit (S×Out) (λso=>pt lo (.loop (lK ⟨.ready,none,gW l,n,ps,assign,body,r⟩ so.2))::inv so.1) (λvs so=>so.2=.normal/\ok vs so.1) (λso x=>(step so.1 x,l9 (step so.1 x).2)) (s0,.normal) (.yield lo) [] [] F ⟨rfl,h0⟩
  (λvs so x rest ho hx h=>by
    have h:l9 (step so.1 x).2=true:=h;have hn:(step so.1 x).2=.normal:=by
     cases e:(step so.1 x).2 with
     |normal=>rfl
     |_=>rw[e]at h;cases h
    exact⟨hn,hok vs so.1 x rest ho.2 hx hn⟩)
  (λvs so x rest ho hx=>by
    obtain⟨s,o⟩:=so;obtain⟨hn,ho⟩:=ho;have hn:o=.normal:=hn;subst hn;exact RY (Y:=Unit) (L:=⟨.ready,none,gW l,n,ps,assign,body,r⟩) (args:=vals x) (k1:=inv s) (out:=λ_=>(step s x).2) (k1':=λ_=>inv (step s x).1) (fs:=λ_=>[]) (pr:=λ_=>True) l (l3 x) (λz=>k3 x z++inv s) rfl rfl hps (hlen x)
     (λB w0=>ha s x lo _ B w0) (λz B w0=>hb vs s x rest z lo _ B w0 ho hx))
 have e:(λxs:List α=>pt lo (.loop (lK ⟨.ready,none,gW l,n,ps,assign,body,r⟩ (gT (λ(so:S×Out) x=>(step so.1 x,l9 (step so.1 x).2)) (s0,.normal) xs).2))::inv (gT (λ(so:S×Out) x=>(step so.1 x,l9 (step so.1 x).2)) (s0,.normal) xs).1)=λxs=>pt lo (.loop (lK ⟨.ready,none,gW l,n,ps,assign,body,r⟩ (jr step s0 xs).2))::inv (jr step s0 xs).1:=by
  funext xs
  rw[LH]
 have h2:bi P fn (first++[.func (.yield lo) ⟨[]⟩ ⟨[]⟩]) captured (pt lo (.loop ⟨.ready,none,gW l,n,ps,assign,body,r⟩)::inv s0) (F1++F) (λ_:List α=>.tuple ⟨[]⟩) (λxs=>pt lo (.loop (lK ⟨.ready,none,gW l,n,ps,assign,body,r⟩ (gT (λ(so:S×Out) x=>(step so.1 x,l9 (step so.1 x).2)) (s0,.normal) xs).2))::inv (gT (λ(so:S×Out) x=>(step so.1 x,l9 (step so.1 x).2)) (s0,.normal) xs).1) (λ_=>[]) X:=this;rw[e]at h2;exact h2
theorem SA{S α Z:Type}{f:Operand}{ps:List Tmp}{assign body:dx}{fn:Fn}{first captured:List Value}{vals:α->List Value}{fe:α->List aH}{F1:List aH}{X:List α->Prop}(step:S->α->S×Out)(inv:S->List OA)(ok:List α->S->Prop)(s0:S)(l3:α->Z->List (Nat×Value))(k3:α->Z->List OA)(h0:ok [] s0)
 (hok:∀vs s x rest,ok vs s->X (vs++x::rest)->(step s x).2=.normal->ok (vs++[x]) (step s x).1) (hit:Mj P vals fe fn first captured F1 X)
 (ha:∀(s:S) (x:α) (lo:Nat) (o:dG) B w0,R (λh=>EV P assign (act n ((ps.zip (vals x)).reverse++l) [] none (some lo)) h (BU B w0 n (l3 x) lo o (λz=>k3 x z++inv s) (fe x++F))) B w0 (pt lo o::inv s) (fe x++F))
 (hb:∀(vs:List α) (s:S) (x:α) (rest:List α) (z:Z) (lo:Nat) (L:mZ) B w0,ok vs s->X (vs++x::rest)->R (λh=>EV P body (act n (l3 x z) [] none (some lo)) h (zM B w0 lo L (λ_:Unit=>(step s x).2) (λ_=>inv (step s x).1) (λ_=>[]) (λ_=>True))) B w0 (pt lo (.loop (uE L))::(k3 x z++inv s)) (fe x++F))
 (next:∀r xs,X xs->R (λh=>K (jr step s0 xs).2 (act n l ({target:=.collected r,args:= #[]}::D) pm none) h) B w0 (inv (jr step s0 xs).1++(pt r (.ig true)::bq)) F)
 (jo:∀s x,zK (step s x).2)
 (hf:ev l f=.func fn ⟨first⟩ ⟨captured⟩:=by rfl) (hps:ps.all (λp=>Nat.blt p n)=true:=by rfl) (hlen:∀x,ps.length=(vals x).length:=by intro _;rfl)
 (hk:aI (inv s0) kl bq:=by exact l8) (hF:Sub F1 F:=by exact lJ):
 R (λh=>EV P (.rangeFunc f ps assign body) (act n l D pm none) h K) B w0 kl F:=
 ab1 step inv ok s0 h0 hok hit hf hps hlen hk hF jo l3 k3 ha hb next
end
section
variable {B:List Nat} {w0:Wd} {kl:List OA} {F:List aH}
theorem ab2{α:Type}(E:Enc α){v:Value}{xs:List α}{k:Nat}{x:α}{Q:IH->Prop}(n:Nat)(hn:E.n=n)(hx:xs[k]? =some x)
 (h:∀b o f c y,v=.slice (some ⟨b,o,some f⟩) xs.length c->R Q B w0 kl (eG b (o+k*n) (E.pat x y)::(E.fs x y++F))) (hf:ah E v xs∈F:=by exact qI):R Q B w0 kl F:=λw s=>by
 subst hn;rcases s.facts _ hf with⟨h0,_⟩|⟨i,o,f,c,cells,⟨h1,_⟩,h2,h3⟩
 ·rw[h0]at hx;cases hx
 ·obtain⟨y,q1,q2⟩:=h3 k x hx;refine h i o f c y h1 w ⟨s.agree,s.le,s.fH,s.own,λg hg=>?_⟩;rcases dF.1 hg with rfl|hg
  ·exact⟨cells,h2,q1⟩
  ·rcases dV.1 hg with hg|hg
   ·exact q2 g hg
   ·exact s.facts g hg
end
end Go.Ideal
namespace Go.Ideal
variable {P:Program} {B:List Nat} {w0:Wd} {kl kl' bq:List OA} {F:List aH} {K:KO} {ds:List Tmp} {rest:List bT} {n:Nat} {l:List (Nat×Value)} {D:List Deferred} {pm:Option FrameMode} {ro:Option Nat} {d:Nat} {g:Option (Tmp×Bool)}
theorem ab3{e:TypeId}{size bytes:Nat}{zero:List Value}{s x:Operand}(m:Nat)(h0:0<m)(hm:m*bytes<=1073741824/\m*size<=1073741824/\m<=1073741824)
 (next:∀b,R (λh=>aF P ds rest (act n ((d,.slice (some ⟨b,0,some size⟩) m m)::l) D pm ro) h K) B w0 (pt b (.cells (zeros zero m))::kl) F)
 (hs:ev l s=.slice none 0 0:=by rfl) (hx:ev l x=.int .i64 (m:Int):=by rfl) (hn:Nat.blt d n=true:=by rfl) (hg:bU l g=true:=by rfl):
 R (λh=>aF P ds (⟨⟨some d,g,.A7 e size bytes zero s x⟩,[]⟩::rest) (act n l D pm ro) h K) B w0 kl F:=λw st=>by
 have hle:∀{a b:Nat},a<=b->Nat.ble a b=true:=λh=>by rw[pu];exact h
 refine j4 hn hg (v:=.slice (some ⟨w.h.next,0,some size⟩) m m) (h':=w.h.new (.cells (zeros zero m))) ?_ (next w.h.next (w.new _) (st.new _));obtain⟨k,rfl⟩:∃k,m=k+1:=⟨m - 1,by omega⟩
 have hx':ev l x=.int .i64 (.ofNat (k+1)):=hx;simp only[aB.run,hx',hs];have e1:(Nat.ble (Nat.mul (k+1) bytes) small&&Nat.ble (Nat.mul (k+1) size) small&&Nat.ble (k+1) small)=true:=by
  rw[hle (show Nat.mul (k+1) bytes<=small from hm.1),hle (show Nat.mul (k+1) size<=small from hm.2.1),hle (show k+1<=small from hm.2.2)];rfl
 rw[e1];rfl
theorem SB{cs1 cs2 xs:List Value}(h:xs.length<=cs2.length):jb (cs1++cs2) cs1.length xs=some (cs1++(xs++cs2.drop xs.length)):=by
 obtain⟨r,hr⟩:=E8 (cs1++cs2) cs1.length xs (by rw[fA];omega);obtain⟨h1,h2,h3⟩:=Dv hr;rw[hr];congr 1;apply jW;intro j;rw[h3 j];by_cases c1:j<cs1.length
 ·rw[if_neg (by omega),kJ c1,kJ c1]
 ·by_cases c2:j<cs1.length+xs.length
  ·rw[if_pos ⟨by omega,c2⟩,lX (by omega),kJ (by omega)]
  ·rw[if_neg (by omega),lX (by omega),lX (by omega),lX (by omega),mX];congr 1;omega
theorem SC{α:Type}{E:Enc α}{v:Value}{az:List (α×E.Y)}{w:Wd}(h:(oU E v az).p w):ng v=some az.length/\vC E.n az.length v w.h=some (bV E az):=by
 rcases h with⟨rfl,a,c,rfl,_⟩|⟨i,o,f,c,cells,⟨e1,hc⟩,q2,q3⟩
 ·exact⟨rfl,rfl⟩
 subst e1;refine⟨rfl,?_⟩;by_cases hne:az=[]
 ·subst hne;rfl
 obtain⟨k,hk'⟩:∃k,az.length=k+1:=⟨az.length - 1,by have:=yX.2 hne;omega⟩
 have hfl:=wh az;have hcells:∀j,j<az.length*E.n->cells[o+j]? =(bV E az)[j]?:=λj hj=>by
  have hn0:0<E.n:=by
   rcases CW E.n with h0|h0
   ·rw[h0]at hj;omega
   ·exact h0
  have hd:j/E.n<az.length:=by rw[Nat.div_lt_iff_lt_mul hn0];exact hj
  have hmod:=CV j hn0;have hpk:=cB hd;have hu:(E.pat (az[j/E.n]).1 (az[j/E.n]).2)[j%E.n]? =some ((E.pat (az[j/E.n]).1 (az[j/E.n]).2)[j%E.n]'(by rw[E.len];exact hmod)):=cB _;have h1:=(q3 (j/E.n) _ hpk).1 (j%E.n) _ hu;have h2:=wm hpk hu;have xP:j/E.n*E.n+j%E.n=j:=by rw[Nat.mul_comm];exact Nat.div_add_mod j E.n
  rw[og,xP]at h1;rw[xP]at h2;rw[h1,h2]
 have hlen:o+az.length*E.n<=cells.length\/az.length*E.n=0:=by
  rcases CW (az.length*E.n)with h0|h0
  ·exact .inr h0
  ·left;have h1:=hcells (az.length*E.n - 1) (by omega);have hx0:(bV E az)[az.length*E.n - 1]? =some ((bV E az)[az.length*E.n - 1]'(by omega)):=cB _;rw[hx0]at h1;have:=(bO.1 h1).1;omega
 have hread:w.h.gU i o (az.length*E.n)=some (bV E az)\/(az.length*E.n=0):=by
  rcases hlen with hlen|hlen
  ·left;rw[q2.cells.gU,nu,ny,if_pos (by rw[mK];omega)];congr 1;apply jW;intro j;rw[pE];by_cases hj:j<az.length*E.n
   ·rw[if_pos hj,mX];exact hcells j hj
   ·rw[if_neg hj,iD (by omega)]
  ·exact .inr hlen
 have hread:w.h.gU i o (az.length*E.n)=some (bV E az):=by
  rcases hread with h|h
  ·exact h
  ·have hf0:bV E az=[]:=ji.1 (by omega);rw[h,q2.cells.gU,ny,if_pos (cz _),hf0];rfl
 rw[hk']at hread⊢;exact hread
theorem SE{α:Type}{e:TypeId}{size bytes b m cap:Nat}{f:Option Nat}{s x:Operand}{v:Value}(E:Enc α)(az:List (α×E.Y))(cs1 cs2:List Value)(h1:cs1.length=m*E.n)(h2:az.length*E.n<=cs2.length)(hc:m+az.length<=cap)
 (hm:(m+az.length)*bytes<=1073741824/\(m+az.length)*size<=1073741824/\(m+az.length)<=1073741824)
 (next:R (λh=>aF P ds rest (act n ((d,.slice (some ⟨b,0,f⟩) (m+az.length) cap)::l) D pm ro) h K) B w0 (pt b (.cells (cs1++(bV E az++cs2.drop (az.length*E.n))))::kl') F)
 (hs:ev l s=.slice (some ⟨b,0,f⟩) m cap:=by rfl) (hx:ev l x=v:=by conv=>lhs;whnf) (hf:oU E v az∈F:=by exact qI) (hz:E.n=size:=by rfl) (hk:ay (pt b (.cells (cs1++cs2))) kl kl':=by exact gD) (hn:Nat.blt d n=true:=by rfl) (hg:bU l g=true:=by rfl):
 R (λh=>aF P ds (⟨⟨some d,g,.append e size bytes s x⟩,[]⟩::rest) (act n l D pm ro) h K) B w0 kl F:=λw st=>by
 subst hz;have hle:∀{a b:Nat},a<=b->Nat.ble a b=true:=λh=>by rw[pu];exact h
 have st1:=st.fV hk;obtain⟨r1,r2⟩:=SC (st.facts _ hf);have hfl:=wh az;have hlv:jb (cs1++cs2) cs1.length (bV E az)=some (cs1++(bV E az++cs2.drop (az.length*E.n))):=by
  rw[SB (by omega),hfl]
 refine j4 hn hg (v:=.slice (some ⟨b,0,f⟩) (m+az.length) cap) (h':=w.h.set b (.cells (cs1++(bV E az++cs2.drop (az.length*E.n))))) ?_ (next ⟨w.h.set b _,w.z,λi hi=>w.kR i hi⟩ st1.write);have e1:w.h.storeAt b (Nat.add 0 (Nat.mul m E.n)) (bV E az)=some (w.h.set b (.cells (cs1++(bV E az++cs2.drop (az.length*E.n))))):=by
  unfold IH.storeAt;simp only[st1.get.1];rw[show Nat.add 0 (Nat.mul m E.n)=cs1.length by rw[h1];exact eT _,hlv]
 simp only[aB.run,hx,hs,r1,r2,qp];show cond (Nat.ble (Nat.mul (m+az.length) bytes) small&&Nat.ble (Nat.mul (m+az.length) E.n) small&&Nat.ble (m+az.length) small) (cond (Nat.ble (m+az.length) cap) (match w.h.storeAt b (Nat.add 0 (Nat.mul m E.n)) (bV E az)with|some h=>some (Value.slice (some ⟨b,0,f⟩) (m+az.length) cap,h)|none=>none) _) none=_;rw[hle (show Nat.mul (m+az.length) bytes<=small from hm.1),hle (show Nat.mul (m+az.length) E.n<=small from hm.2.1),hle (show m+az.length<=small from hm.2.2),hle hc,e1];rfl
theorem ab4{ρ:Operand->Value}{x hi:Operand}{b m c k:Nat}(hx:ρ x=.slice (some ⟨b,0,some (k+1)⟩) m c)(hh:ρ hi=.int .i64 (0:Int)):Pu P ρ (.vw (k+1) x none (some hi) none) (.slice (some ⟨b,0,some (k+1)⟩) 0 c):=λh=>by
 simp only[aB.run,hx];show(match bounds? m c none (some (ρ hi)) none with|some (l,hh,m)=>cond (Nat.beq (Nat.succ k) (k+1)) (some (Value.slice (some ⟨b,Nat.add 0 (Nat.mul l (k+1)),some (Nat.succ k)⟩) (Nat.sub hh l) (Nat.sub m l),h)) none|none=>none)=_;rw[hh];have e1:bounds? m c none (some (.int .i64 (0:Int))) none=some (0,0,c):=rfl;rw[e1];show cond (Nat.beq (Nat.succ k) (k+1)) (some (Value.slice (some ⟨b,Nat.add 0 (Nat.mul 0 (k+1)),some (Nat.succ k)⟩) (Nat.sub 0 0) (Nat.sub c 0),h)) none=_;rw[show Nat.beq (Nat.succ k) (k+1)=true from AL _,show Nat.mul 0 (k+1)=0 from w9 _];rfl
theorem ab5{ρ:Operand->Value}{x hi:Operand}{k c:Nat}(hx:ρ x=.slice none 0 c)(hh:ρ hi=.int .i64 (0:Int)):Pu P ρ (.vw k x none (some hi) none) (.slice none 0 c):=λh=>by
 simp only[aB.run,hx];show(match bounds? 0 c none (some (ρ hi)) none with|some (l,hh,m)=>some (Value.slice none (Nat.sub hh l) (Nat.sub m l),h)|none=>none)=_;rw[hh];have e1:bounds? 0 c none (some (.int .i64 (0:Int))) none=some (0,0,c):=rfl;rw[e1];rfl
theorem SF{ρ:Operand->Value}{s x:Operand}{e:TypeId}{size bytes c:Nat}{a:Option Addr}(hs:ρ s=.slice none 0 0)(hx:ρ x=.slice a 0 c):Pu P ρ (.append e size bytes s x) (.slice none 0 0):=λh=>by
 simp only[aB.run,hx,hs];show qp size bytes (.slice none 0 0) 0 [] h=_;unfold qp;have h0:∀m,Nat.mul (Nat.add 0 0) m=0:=λm=>w9 m;show cond (Nat.ble (Nat.mul (Nat.add 0 0) bytes) small&&Nat.ble (Nat.mul (Nat.add 0 0) size) small&&Nat.ble (Nat.add 0 0) small) (cond (Nat.ble (Nat.add 0 0) 0) (some (Value.slice none (Nat.add 0 0) 0,h)) _) none=_;rw[h0,h0];rfl
theorem Mk{ρ:Operand->Value}{x:Operand}(hx:ρ x=.slice none 0 0):Pu P ρ (.Dh x) (.int .i64 0):=λh=>by
 simp only[aB.run,hx];rfl
end Go.Ideal
namespace Go.Ideal
open Go.RowKit Go.WideShapes Go.ChangeShapes
variable {P:Program}
def rY(n:Nat):Lay:=(List.range n).map λg=>(some ⟨g,0,0,0,0⟩,none)
theorem SG{n i:Nat}(h:i<n):(rY n)[i]? =some (some ⟨i,0,0,0,0⟩,none):=by
 unfold rY;rw[eZ,Gf h];rfl
theorem ab6(n:Nat):(rY n).length=n:=by unfold rY;rw[bR,Da]
theorem ab7(zz:P.follows .mixedOrders=true){f:FuncId}(fn:Func)(hfn:P.funcs[f]? =some fn)(hbody:fn.body.isNone=false)(hname:(fn.name== "runtime.NumGoroutine")=false){args args':List Value}{L:Lay}{w:World}{v:Value}(ab8:j3 P (jM L))
 (hL:∀(i:Nat) g cs,L[i]? =some (some g,some cs)->BA L w g cs) (hargs:aV (jM L) args args') (hv:bQ v=true)
 (hc:CALL P ⟨.func f,args,[],none⟩ (j5 L) (λr pm h'=>pm=none/\r=.ok v/\Agree (j5 L) h')):
 Calls P f ⟨args'⟩ w (λe w'=>e=.returned v/\Below w.heap.size w w'):=by
 have hM:=ZA zz hc;have hW:WR P (jM L) (j5 L) w:=ZX hL;obtain⟨nx,F0,n1,n2,n3⟩:=hM (jM L) w (.func f) args' [] ab8 hW (.func f) hargs .nil;have hnx:nx=.enter f ⟨args'⟩:=by
  have hcall:(callFunc f ⟨args'⟩).run P w=.ok (.enter f ⟨args'⟩) w:=by
   simp only[callFunc,dB,run_program,dH,hfn,hname,hbody,sF,if_false,eP]
  have e:(⟨args'⟩:Array Value)++(⟨[]⟩:Array Value)=⟨args'⟩:=by apply Array.ext';simp
  have n1:(invoke (.fn (.func f) ⟨[]⟩) ⟨args'⟩).run P w=.ok nx w:=n1;simp only[invoke,e]at n1;rw[hcall]at n1;cases n1;rfl
 subst hnx;have vV:F0=Frame.enter P f ⟨args'⟩ .normal:=by
  have:entry P .normal (.enter f ⟨args'⟩)=some (Frame.enter P f ⟨args'⟩ .normal):=rfl;have n2:entry P .normal (.enter f ⟨args'⟩)=some F0:=n2;rw[this]at n2;exact(Option.some.inj n2).symm
 subst vV;intro cs;obtain⟨r,pm',h',β',w',r',cs1,q1,q2,q3,q4,q5,q6⟩:=n3 cs (by intro m hm;cases hm);obtain⟨hp,rfl,hag⟩:=q1;cases q5;cases q4 with
 | @ok v v' qD=>
   have:=qD.om hv;subst this;rcases q6 with⟨f1,a1,F1,e1,e2,e3,e4,e5⟩|⟨⟨_,l,e1⟩,_⟩
   ·cases e1;refine⟨.returned v',w',F1,⟨rfl,?_⟩,e2,e3,?_⟩
    ·refine⟨q3.os,q3.tape,q3.output,q3.size,λk hk=>?_⟩;by_cases hx:∀i g,jM L i=some g->(j5 L).get i≠none->g.b≠k
     ·exact q3.keep k hk hx
     ·have hx:∃i g,jM L i=some g/\(j5 L).get i≠none/\g.b=k:=by
       apply Classical.byContradiction;intro hc;exact hx λi g hi hg hb=>hc ⟨i,g,hi,hg,hb⟩
      obtain⟨i,g,hi,hg,rfl⟩:=hx;have hin:=hW.dom i g hi;exact q3.qB i g (by rw[hag.low (bJ _)];exact hin) hin hi hg hk
    ·obtain⟨t1,t2,fn,t3,t4⟩:=e5;exact⟨t1,t2,e4,fn,t3,t4⟩
   ·cases e1
section
variable {H:Type} {enc:TypeId×Value->H} {W:World}
theorem ab9(zz:P.follows .mixedOrders=true){f:FuncId}(fn:Func)(hfn:P.funcs[f]? =some fn)(hbody:fn.body.isNone=false)(hname:(fn.name== "runtime.NumGoroutine")=false){K:TypeId->Prop}
 (hK:∀t,K t->PlainT P K t) {ts:List TypeId} {vs:List Value} {ds:List (DataW H)} {ps:List MemPlace} (hT:∀t∈ts,K t) (hok:∀(j:Nat) t v,ts[j]? =some t->vs[j]? =some v->Value.okWide P W .any 0 t v)
 (hA:DataW.TrodAll enc P W 0 (λ_=>true) true ts vs ds ps)
 (acd:∀(w:Wd) (vs':List Value),P.globals.size<=w.h.next->(∀i,i<w.h.next->w.z i)->vs'.length=vs.length->(∀(j:Nat) t v d,ts[j]? =some t->vs'[j]? =some v->ds[j]? =some d->uD P w t v d)->∃F,(∀f∈F,f.p w)/\dz P f vs' F (.bool true)):
 Calls P f ⟨vs⟩ W (λe w'=>e=.returned (.bool true)/\Below W.heap.size W w'):=by
 obtain⟨M,vs',h1,h2,h3⟩:=QN hK hT hok hA (rY P.globals.size);have hlG:=ab6 P.globals.size;refine ab7 zz fn hfn hbody hname (L:=rY P.globals.size++M) (args:=vs') (λg hg=>⟨⟨g,0,0,0,0⟩,?_,rfl,rfl⟩) (λi g cs hi=>?_) h1 rfl ?_
 ·unfold jM;rw[kJ (by omega),SG hg];rfl
 ·by_cases hlt:i<P.globals.size
  ·rw[kJ (by omega),SG hlt]at hi;cases hi
  ·exact h3 i g cs (by omega) hi
 have hlen:vs'.length=vs.length:=by
  have:∀{a b:List Value},aV (jM (rY P.globals.size++M)) a b->a.length=b.length:=by
   intro a;induction a with
   |nil=>intro b h;cases h;rfl
   |cons x a ih=>intro b h;cases h with|cons q r=>simp[ih r]
  exact this h1
 obtain⟨F,hF,hfn'⟩:=acd (HY (rY P.globals.size++M)) vs' (by show _<=(rY P.globals.size++M).length;rw[fA];omega) (λi hi=>hi) hlen (λj t v d ht hv hd=>by
  obtain⟨v0,e,qD⟩:=aa9 (ts:=ts) h1 j v hv;exact aa8 rfl (h2 j t v d ht hv hd) qD (hok j t v0 ht e))
 have st:St [] (HY (rY P.globals.size++M)) [] F (HY (rY P.globals.size++M)):=⟨⟨bJ _,λ_ _ _=>rfl,λ_ _=>rfl⟩,Wd.Le.refl _,λi _ hz=>.inl hz,⟨[],rfl,ul,λi hi=>by cases hi⟩,hF⟩
 refine .qF _ (hfn' [] (HY (rY P.globals.size++M)) st) ?_;rintro r pm h' ⟨rfl,w',y,rfl,s,rfl,_⟩;exact⟨rfl,rfl,⟨s.agree.next,λi hi=>s.agree.get i hi (by simp),λhl=>s.agree.low hl (by simp)⟩⟩
end
def Il(n:Nat):aH:=⟨λw=>n<=w.h.next,λa h=>lF h a.next⟩
theorem ace{f:FuncId}{v:Value}{n:Nat}(hs:∀h:IH,n<=h.next->CALL P ⟨.func f,[],[],none⟩ h (λr pm h'=>pm=none/\r=.ok v/\h'=h)):dz P f [] [Il n] v:=λB w s=>
 .qF _ (hs w.h (s.facts (Il n) (bH.2 rfl))) (by rintro r pm h' ⟨rfl,rfl,rfl⟩;exact⟨rfl,w,(),rfl,⟨s.agree,s.le,s.fH,s.own,λf h=>by cases h⟩,rfl,trivial⟩)
end Go.Ideal
namespace Go.Ideal
variable {P:Program}
def Ml:Value->Bool
 | .tuple ⟨c::cs⟩=>bQ c&&cs.all bQ
 | .tuple _=>false
 |v=>bQ v
theorem aV.SH{β:aD}:∀{l:List Value},l.all bQ=true->aV β l l
 |[],_=>.nil
 |v::l,h=>by
  rw[CS,gL]at h;exact .cons (VR.free h.1) (aV.SH h.2)
theorem aV.Mm{β:aD}:∀{l l':List Value},aV β l l'->l.all bQ=true->l'=l
 |_,_,.nil,_=>rfl
 |_,_,.cons h1 h2,h=>by
  rw[CS,gL]at h;rw[h1.om h.1,aV.Mm h2 h.2]
theorem VR.acf{β:aD}{v:Value}(h:Ml v=true):VR β v v:=by
 unfold Ml at h;split at h
 ·rename_i c cs;exact .tuple (aV.SH (by rw[CS];exact h))
 ·cases h
 ·exact VR.free h
