/-
  The ideal machine, 72: conversions between integers, shifts of unsigned ones; arrays of numbers as keys.
-/
import Derived.Test.YtoohgkkmdnbnfaaGreatDoorIdealND
set_option linter.all false
namespace Go.Ideal
variable {P:Program}
theorem Ed{ρ:Operand->Value}{src dst:TypeId}{x:Operand}{kk k:IntKind}{n m:Int}{ds:TypeDesc}(hs:P.underlying src=some ds)(hd:P.underlying dst=some (.int k))(hx:ρ x=.int kk n)(hw:k.wrap n=m):Pu P ρ (.conv src dst x) (.int k m):=λh=>by
 have h1:dX P (convert src dst (.int kk n))=some (.int k m):=by
  unfold convert;rw[gY,qz hs];simp only[iT];rw[gY,qz hd];simp only[iT];rw[<- hw];rfl
 simp only[aC.run,hx,kg,h1];rfl
theorem RY{a:Nat}(h:a<18446744073709551616):IntKind.u64.wrap (a:Int)=a:=by
 show(let m:=(a:Int)%(2^64:Int);if false&&m>=(2^63:Int)then m - (2^64:Int)else m)=_;simp only[Bool.false_and,tQ,if_false];rw[Int.emod_eq_of_lt (by omega) (by simpa using(by omega:(a:Int)<18446744073709551616))]
theorem RZ{ρ:Operand->Value}{x y:Operand}{t:TypeId}{a b:Nat}(hx:ρ x=.int .u64 (a:Int))(hy:ρ y=.int .u64 (b:Int))(hb:b<64):Pu P ρ (.bin .shr t x y) (.int .u64 ((a>>>b:Nat):Int)):=λh=>by
 have hv:dX P (binOp .shr t (.int .u64 (a:Int)) (.int .u64 (b:Int)))=some (.int .u64 ((a>>>b:Nat):Int)):=by
  show dX P (Op.shift .shr .u64 a .u64 b)=_;unfold Op.shift;rw[if_neg (by omega)];show some (Value.int .u64 ((a:Int).fdiv (2^(min (b:Int).toNat 64))))=_;rw[show min (b:Int).toNat 64=b by simp;omega,VG];congr 2;rw[show((2:Int)^b)=((2^b:Nat):Int)by simp,Int.fdiv_eq_ediv_of_nonneg _ (Int.natCast_nonneg _)];simp
 have h1:kg P (do eqGuard .shr t x y (.int .u64 (a:Int)) (.int .u64 (b:Int));binOp .shr t (.int .u64 (a:Int)) (.int .u64 (b:Int)))=some (.int .u64 ((a>>>b:Nat):Int)):=by
  unfold kg;rw[gY,Bj (by intro c e;cases e) (by intro e;cases e)];simp only[iT,hv];rfl
 have h2:lg P .shr t x y (.int .u64 (a:Int)) (.int .u64 (b:Int))=some (.int .u64 ((a>>>b:Nat):Int)):=by
  unfold lg;have:(match qV .u64 .u64 with|true=>oz .shr .u64 (a:Int) (b:Int)|false=>none)=none:=rfl;simp only[qV,bR,Jr,cond];exact h1
 simp only[aC.run,hx,hy,h2]
theorem abm{α:Type}[DecidableEq α]{aX:α->Value}{kt:TypeId}{d:TypeDesc}(hu:P.underlying kt=some d)(hn:∀a b,Instr.sameNow d (aX a) (aX b)=none)(he:∀a b,dX P (Op.equal kt (aX a) (aX b))=some (decide (a=b)))(a:α)(ai:List (α×Value))(es:List MapEntry)(h:oh aX ai es):qR P kt (aX a) es=some (og a ai 0):=by
 have abn:∀(ai:List (α×Value)) (es:List MapEntry) (i:Nat),oh aX ai es->dX P (Instr.findAsking kt (aX a) es i)=some (og a ai i):=by
  intro ai;induction ai with
  |nil=>
   intro es i h;cases es with
   |nil=>rfl
   |cons e es=>cases h
  |cons p ai ih=>
   intro es i h;obtain⟨e,es',rfl,h1,h2,h3⟩:=LG h;unfold Instr.findAsking;rw[gY,h1,he];simp only[iT];unfold og;by_cases hab:a=p.1
   ·rw[dS hab,if_pos hab,h2];rfl
   ·rw[aU hab,if_neg hab];exact ih es' (i+1) h3
 unfold qR Instr.findKey;rw[gY,qz hu];simp only[iT];cases ai with
 |nil=>
  cases es with
  |nil=>rfl
  |cons e es=>cases h
 |cons p ai=>
  have h':=h;obtain⟨e,es',rfl,h1,h2,h3⟩:=LG h;have:Instr.findNow d (aX a) (e::es') 0=none:=by
   show(match Instr.sameNow d (aX a) e.key with
   |some true=>some (some (0,e.val))
   |some false=>Instr.findNow d (aX a) es' 1
   |none=>none)=_
   rw[h1,hn]
  rw[this];exact abn _ _ _ h'
abbrev zI:Int×Int->Value:=λp=>.agg ⟨[.int .i64 p.1,.int .i64 p.2]⟩
theorem abo{kt e:TypeId}(hu:P.underlying kt=some (.array 2 e))(he:P.underlying e=some (.int .i64))(hs:P.info? e|>.map (·.size)|>(·=some 1))(hc:∀a b:Int,qh P kt (.agg ⟨[.int .i64 a,.int .i64 b]⟩)=true):qB P kt zI where
 D7 a:=hc a.1 a.2
 find a ai es h:=abm hu (λa b=>rfl) (λa b=>by
  have:=RP (d:=9998) (xs:=[a.1,a.2]) (ys:=[b.1,b.2]) hu he hs rfl rfl;rw[show decide (a=b)=decide ([a.1,a.2]=[b.1,b.2])from nU.2 ⟨λh=>by rw[h],λh=>by
   injection h with h1 h2;injection h2 with h2;exact Prod.ext h1 h2⟩]
  exact this) a ai es h
 same a:=by
  show((⟨[Value.int .i64 a.1,.int .i64 a.2]⟩:Array Value).size==(⟨[Value.int .i64 a.1,.int .i64 a.2]⟩:Array Value).size&&(List.zip [Value.int .i64 a.1,.int .i64 a.2] [Value.int .i64 a.1,.int .i64 a.2]).all λ(x,y)=>Instr.sameBits 9999 x y)=true;simp[Instr.sameBits]
end Go.Ideal
namespace Go.Ideal
section
variable {P:Program}
variable {ds:List Tmp} {rest:List bT} {n:Nat} {l:List (Nat×Value)} {D:List Deferred} {pm:Option FrameMode} {ro:Option Nat} {h:IH} {K:KO} {d:Nat} {g:Option (Tmp×Bool)}
theorem R3{op:aC}{v:Value}{h':IH}{re:List ik}(hn:Nat.blt d n=true)(hg:bX l g=true)(hr:op.run P (ev l) h=some (v,h'))
 (hsm:∀q∈re,∃u h2,q.op.run P (ev ((d,v)::l)) h'=some (u,h2)/\∀d',q.dst=some d'->lk ((d,v)::l) d'=u)
 (next:aD P ds rest (act n ((d,v)::l) D pm ro) h' K):aD P ds (⟨⟨some d,g,op⟩,re⟩::rest) (act n l D pm ro) h K:=
 .kI (uu hg) v h' (by rw[mI];exact hr) (λq hq _=>by
  obtain⟨u,h2,e1,e2⟩:=hsm q hq;rw[oH hn];exact⟨u,h2,by rw[mI];exact e1,λd' hd=>by rw[<- e2 d' hd];exact sQ _ _⟩) (by rw[oH hn];exact next)
theorem abp{re:List ik}{e:TypeId}{size bytes b o m k:Nat}{f:Option Nat}{s x:Operand}{old xs:List Value}(hn:Nat.blt d n=true)(hg:bX l g=true)
 (hs:ev l s=.slice (some ⟨b,o,f⟩) m m) (hx:nC (ev l x)=some (k+1)) (hxs:lN size (k+1) (ev l x) h=some xs) (hold:h.iJ b o (m*size)=some old)
 (hf:f=some 0\/f=some size) (hm:(m+(k+1))*bytes<=1073741824/\(m+(k+1))*size<=1073741824/\m+(k+1)<=1073741824)
 (hsm:∀h',zm h h' b (.cells (old++xs))->∀q∈re,∃u h2,q.op.run P (ev ((d,.slice (some ⟨h.next,0,some size⟩) (m+(k+1)) (m+(k+1)))::l)) h'=some (u,h2)/\∀d',q.dst=some d'->lk ((d,.slice (some ⟨h.next,0,some size⟩) (m+(k+1)) (m+(k+1)))::l) d'=u)
 (next:∀h',zm h h' b (.cells (old++xs))->aD P ds rest (act n ((d,.slice (some ⟨h.next,0,some size⟩) (m+(k+1)) (m+(k+1)))::l) D pm ro) h' K):
 aD P ds (⟨⟨some d,g,.append e size bytes s x⟩,re⟩::rest) (act n l D pm ro) h K:=by
 have hle:∀{a b:Nat},a<=b->Nat.ble a b=true:=λh=>by rw[tO];exact h
 have hlt:Nat.ble (m+(k+1)) m=false:=by
  cases hb:Nat.ble (m+(k+1)) m with
  |false=>rfl
  |true=>have:=jT hb;omega
 have hc:(Nat.ble (Nat.mul (m+(k+1)) bytes) small&&Nat.ble (Nat.mul (m+(k+1)) size) small&&Nat.ble (m+(k+1)) small)=true:=by
  rw[hle (show Nat.mul (m+(k+1)) bytes<=small from hm.1),hle (show Nat.mul (m+(k+1)) size<=small from hm.2.1),hle (show m+(k+1)<=small from hm.2.2)];rfl
 have hrun:∃h',(aC.append e size bytes s x).run P (ev l) h=some (.slice (some ⟨h.next,0,some size⟩) (m+(k+1)) (m+(k+1)),h')/\zm h h' b (.cells (old++xs)):=by
  have zn:wX size (k+1) (ev l x) h=some xs:=hxs;simp only[aC.run,hx,zn,hs,vo];have e1:lN size m (.slice (some ⟨b,o,f⟩) m m) h=some old:=hold;show∃h',(cond (Nat.ble (Nat.mul (m+(k+1)) bytes) small&&Nat.ble (Nat.mul (m+(k+1)) size) small&&Nat.ble (m+(k+1)) small) _ _)=_/\_;rw[hc];show∃h',(cond (Nat.ble (m+(k+1)) m) _ _)=_/\_;rw[hlt];simp only[cond,e1];rcases hf with rfl|rfl
  ·refine⟨_,rfl,?_⟩;exact⟨rfl,λi hi _=>by rw[IH.iX,if_neg (by omega)],⟨uS _,by rw[IH.iX,if_pos rfl,je]⟩,λ_=>rfl⟩
  ·cases size with
   |zero=>
    refine⟨_,rfl,?_⟩;exact⟨rfl,λi hi _=>by rw[IH.iX,if_neg (by omega)],⟨uS _,by rw[IH.iX,if_pos rfl,je]⟩,λ_=>rfl⟩
   |succ j=>
    have hj:Nat.beq (Nat.succ j) (j+1)=true:=Nat.beq_refl _;refine⟨(h.kill b).new (.cells (old++xs)),?_,?_⟩
    ·show cond (Nat.beq (Nat.succ j) (j+1)) _ _=_;rw[hj,je];rfl
    ·exact⟨rfl,λi hi hb=>by rw[IH.iX,if_neg (by show i≠h.next;omega),IH.sF,if_neg hb],⟨uS _,by rw[IH.iX];exact if_pos rfl⟩,λhl=>by rw[IH.JM,IH.za];omega⟩
 obtain⟨h',hr,hM⟩:=hrun;exact R3 hn hg hr (hsm h' hM) (next h' hM)
theorem abq{re:List ik}{e:TypeId}{size bytes k c:Nat}{s x:Operand}{xs:List Value}(hn:Nat.blt d n=true)(hg:bX l g=true)
 (hs:ev l s=.slice none 0 0) (hx:nC (ev l x)=some (k+1)) (hxs:lN size (k+1) (ev l x) h=some xs)
 (hm:(k+1)*bytes<=1073741824/\(k+1)*size<=1073741824/\(k+1)<=1073741824)
 (hsm:∀h',Agree h h'->At h' h.next (.cells xs)->h'.next=h.next+1->∀q∈re,∃u h2,q.op.run P (ev ((d,.slice (some ⟨h.next,0,some size⟩) (k+1) (k+1))::l)) h'=some (u,h2)/\∀d',q.dst=some d'->lk ((d,.slice (some ⟨h.next,0,some size⟩) (k+1) (k+1))::l) d'=u)
 (next:∀h',Agree h h'->At h' h.next (.cells xs)->h'.next=h.next+1->aD P ds rest (act n ((d,.slice (some ⟨h.next,0,some size⟩) (k+1) (k+1))::l) D pm ro) h' K):
 aD P ds (⟨⟨some d,g,.append e size bytes s x⟩,re⟩::rest) (act n l D pm ro) h K:=by
 have hle:∀{a b:Nat},a<=b->Nat.ble a b=true:=λh=>by rw[tO];exact h
 have e0:Nat.add 0 (k+1)=k+1:=fD _;refine R3 hn hg (h':=h.new (.cells xs)) ?_ (hsm _ (K3 _ _) (K4 _ _) rfl) (next _ (K3 _ _) (K4 _ _) rfl);have zn:wX size (k+1) (ev l x) h=some xs:=hxs;simp only[aC.run,hx,zn,hs,vo,e0];rw[hle (show Nat.mul (k+1) bytes<=small from hm.1),hle (show Nat.mul (k+1) size<=small from hm.2.1),hle (show k+1<=small from hm.2.2)];have e1:lN size 0 (.slice none 0 0) h=some []:=by
  show(match (0:Nat)with|0=>some ([]:List Value)|_=>none)=_;rfl
 have e2:Nat.ble (k+1) 0=false:=rfl;simp only[Jr,cond_true,e2,cond_false,e1,je,bZ]
end
section
variable {P:Program}
variable {ρ:Operand->Value}
variable {B:List Nat} {w0:Wd} {kl kl':List OA} {F:List aF} {a:aW} {K:KO}
variable {y:dm} {i j m0:Nat} {I:Nat->aW->IH->Prop} {ch:List PanicEntry}
variable {B:List Nat} {w0:Wd} {kl kl':List OA} {F:List aF} {K:KO} {ds:List Tmp} {rest:List bT} {n:Nat} {l:List (Nat×Value)} {D:List Deferred} {pm:Option FrameMode} {ro:Option Nat} {d:Nat} {g:Option (Tmp×Bool)}
theorem abr{re:List ik}{α:Type}{E:Enc α}{e:TypeId}{size bytes b':Nat}{s x:Operand}{v:Value}{xs:List α}{a:α}{y:E.Y}{cs:List Value}{k1 k2:List OA}(hn:Nat.blt d n=true)(hg:bX l g=true)
 (hs:ev l s=v) (hx:ev l x=.slice (some ⟨b',0,some 0⟩) 1 1) (hk:az (ap E v xs) kl k1) (hc:az (pt b' (.cells cs)) k1 k2) (hp:cs=E.pat a y) (hF:Sub (E.fs a y) F) (hz:E.n=size)
 (hm:(xs.length+1)*bytes<=1073741824/\(xs.length+1)*size<=1073741824/\xs.length+1<=1073741824)
 (hsm:∀ad,Same P re (ev ((d,.slice ad (xs.length+1) (xs.length+1))::l)) ((d,.slice ad (xs.length+1) (xs.length+1))::l) B w0 (ap E (.slice ad (xs.length+1) (xs.length+1)) (xs++[a])::k2) F)
 (r:∀ad,R (λh=>aD P ds rest (act n ((d,.slice ad (xs.length+1) (xs.length+1))::l) D pm ro) h K) B w0 (ap E (.slice ad (xs.length+1) (xs.length+1)) (xs++[a])::k2) F):
 R (λh=>aD P ds (⟨⟨some d,g,.append e size bytes s x⟩,re⟩::rest) (act n l D pm ro) h K) B w0 kl F:=by
 intro w st;subst hp hz;have hlen:=E.len a y;have st2:St B w0 (ap E v xs::pt b' (.cells (E.pat a y))::k2) F w:=st.jy (.cons hk (.cons hc .nil));have hat:At w.h b' (.cells (E.pat a y)):=st2.at_ (.there .here);have lU:St B w0 (ap E v xs::k2) F w:=(st2.gI (.there .here)).tail;have hfs:∀f∈E.fs a y,f.p w:=λf hf=>st.facts f (hF.mem f hf);have hread:w.h.iJ b' 0 (1*E.n)=some (E.pat a y):=by
  rw[hat.c.iJ,nX,oC,yO,yP,if_pos (by omega),<- hlen,bK]
 have hx1:nC (ev l x)=some (0+1):=by rw[hx];rfl
 have hx2:lN E.n (0+1) (ev l x) w.h=some (E.pat a y):=by rw[hx];exact hread
 -- what lies there afterwards
 have put:∀(w':Wd) (c:Nat) (f:Nat) (cells:List Value),cells.length=xs.length*E.n->(∀(k:Nat) z,xs[k]? =some z->∃y,(∀(j:Nat) u,(E.pat z y)[j]? =some u->cells[k*E.n+j]? =some u)/\∀f∈E.fs z y,f.p w')->(∀f∈E.fs a y,f.p w')->
  (f=0\/f=E.n)->∀S,(pt c (.cells (cells++E.pat a y))).p w' S->(ap E (.slice (some ⟨c,0,some f⟩) (xs.length+1) (xs.length+1)) (xs++[a])).p w' S:=by
  intro w' c f cells h1 h2 h3 h4 S hp;refine .inr ⟨c,0,f,_,by rw[gH];rfl,h4,hp.1,hp.2,by rw[gH,gH,h1,hlen,uU,qd,yO,fD],λk z hk=>?_⟩;by_cases hlt:k<xs.length
  ·rw[nT hlt]at hk;obtain⟨y',q1,q2⟩:=h2 k z hk;refine⟨y',λj u hj=>?_,q2⟩;rw[fD];have:=q1 j u hj;rw[nT (bP.1 this).1];exact this
  ·rw[qN (by omega)]at hk;have hk0:k=xs.length:=by
    have:=(bP.1 hk).1;simp at this;omega
   subst hk0;simp at hk;subst hk;refine⟨y,λj u hj=>?_,h3⟩;rw[fD,qN (by omega),h1,Ju];exact hj
 obtain⟨S,⟨S1,S2,q,q2,e1⟩,hnd,hown⟩:=lU.own;rcases q with⟨rfl,rfl,rfl⟩|⟨b,o,f,cells,rfl,hf,rfl,hb,hcl,hel⟩
 ·have key:∀h',Agree w.h h'->At h' w.h.next (.cells (E.pat a y))->h'.next=w.h.next+1->∃w':Wd,w'.h=h'/\St B w0 (ap E (.slice (some ⟨w.h.next,0,some E.n⟩) (([]:List α).length+1) (([]:List α).length+1)) ([]++[a])::k2) F w':=λh' ag vQ hnx=>by
   obtain⟨w',rfl,jI⟩:=lU.tail.fresh ag vQ hnx;refine⟨w',rfl,?_⟩;have hle:∀f∈E.fs a y,f.p w':=λf hf=>jI.facts f (hF.mem f hf);exact jI.xK λS hp=>put w' _ E.n [] (by simp) (λk z hk=>by cases hk) hle (.inr rfl) S hp
  refine abq (c:=0) hn hg hs hx1 hx2 (by simpa using hm) (λh' ag vQ hnx=>?_) λh' ag vQ hnx=>?_
  ·obtain⟨w',rfl,jI⟩:=key h' ag vQ hnx;exact hsm _ w' jI
  ·obtain⟨w',rfl,jI⟩:=key h' ag vQ hnx;exact r _ w' jI
 ·have xL:St B w0 (pt b (.cells cells)::k2) F w:=⟨lU.agree,lU.le,lU.fI,⟨S,⟨_,S2,⟨rfl,hb⟩,q2,e1⟩,hnd,hown⟩,lU.facts⟩
  have DN:At w.h b (.cells cells):=xL.at_ .here;have key:∀h',zm w.h h' b (.cells (cells.drop o++E.pat a y))->∃w':Wd,w'.h=h'/\St B w0 (ap E (.slice (some ⟨w.h.next,0,some E.n⟩) (xs.length+1) (xs.length+1)) (xs++[a])::k2) F w':=λh' mv=>by
   obtain⟨w',rfl,jI,Bi⟩:=xL.move mv;refine⟨w',rfl,jI.xK λS hp=>?_⟩;have hle:∀f∈E.fs a y,f.p w':=λf hf=>jI.facts f (hF.mem f hf);refine put w' _ E.n (cells.drop o) (by rw[rZ];omega) (λk z hk=>?_) hle (.inr rfl) S hp;obtain⟨y',u1,u2⟩:=hel k z hk;exact⟨y',λj u hj=>by rw[qc,<- ow];exact u1 j u hj,λf hf=>f.mono Bi (u2 f hf)⟩
  refine abp (old:=cells.drop o) (xs:=E.pat a y) hn hg hs hx1 hx2 ?_ (hf.elim (λe=>.inl (by rw[e])) λe=>.inr (by rw[e])) hm (λh' mv=>?_) λh' mv=>?_
  ·have hdl:(cells.drop o).length=xs.length*E.n:=by rw[rZ];omega
   rw[DN.c.iJ,nX,oC,if_pos (by omega),<- hdl,bK]
  ·obtain⟨w',rfl,jI⟩:=key h' mv;exact hsm _ w' jI
  ·obtain⟨w',rfl,jI⟩:=key h' mv;exact r _ w' jI
end
section
variable {P:Program} {B:List Nat} {w0:Wd} {kl kl' bB:List OA} {F:List aF} {K:KO} {n:Nat} {l:List (Nat×Value)} {D:List Deferred} {pm:Option FrameMode} {ro:Option Nat}
theorem R4{re:List ik}{α:Type}(E:Enc α){ds:List Tmp}{rest:List bT}{d:Nat}{g:Option (Tmp×Bool)}{e:TypeId}{size bytes b':Nat}{s x:Operand}{v:Value}{xs:List α}(a:α)(y:E.Y){cs:List Value}{k1 k2:List OA}
 (hm:(xs.length+1)*bytes<=1073741824/\(xs.length+1)*size<=1073741824/\xs.length+1<=1073741824)
 (next:∀ad,R (λh=>aD P ds rest (act n ((d,.slice ad (xs.length+1) (xs.length+1))::l) D pm ro) h K) B w0 (ap E (.slice ad (xs.length+1) (xs.length+1)) (xs++[a])::k2) F)
 (hn:Nat.blt d n=true:=by rfl) (hg:bX l g=true:=by rfl)
 (hs:ev l s=v:=by conv=>lhs;whnf) (hx:ev l x=.slice (some ⟨b',0,some 0⟩) 1 1:=by rfl) (hk:az (ap E v xs) kl k1:=by exact gK) (hc:az (pt b' (.cells cs)) k1 k2:=by exact gK) (hp:cs=E.pat a y:=by rfl) (hF:Sub (E.fs a y) F:=by exact lu) (hz:E.n=size:=by rfl)
 (hsm:∀ad,Same P re (ev ((d,.slice ad (xs.length+1) (xs.length+1))::l)) ((d,.slice ad (xs.length+1) (xs.length+1))::l) B w0 (ap E (.slice ad (xs.length+1) (xs.length+1)) (xs++[a])::k2) F:=by intro _;repeat (first|exact Bl|refine Bn rfl (by repeat (first|with_reducible exact az.here|with_reducible apply az.there|with_reducible apply az.app)) (by first|exact rfl|(conv=>lhs;whnf)) rfl ?_|refine DT rfl (by(repeat (first|with_reducible exact dM .. |with_reducible apply dJ));first|done|fail) (by first|exact rfl|(conv=>lhs;whnf)) rfl ?_|refine DU rfl (by(repeat (first|with_reducible exact dM .. |with_reducible apply dJ));first|done|fail) (by first|exact rfl|(conv=>lhs;whnf)) rfl ?_|refine DV rfl (by repeat (first|with_reducible exact az.here|with_reducible apply az.there|with_reducible apply az.app)) (by first|exact rfl|(conv=>lhs;whnf)) rfl ?_|refine DW rfl (by(repeat (first|with_reducible exact dM .. |with_reducible apply dJ));first|done|fail) (by first|exact rfl|(conv=>lhs;whnf)) rfl ?_|refine DY rfl (by(repeat (first|with_reducible exact dM .. |with_reducible apply dJ));first|done|fail) (by first|exact rfl|(conv=>lhs;whnf)) rfl ?_|refine QN (by first|((with_reducible apply Gp);(focus ((conv=>lhs;whnf);(first|done|fail))))|((with_reducible apply Gq);(focus ((conv=>lhs;whnf);(first|done|fail))))|((with_reducible apply Gu);(focus exact rfl))|((with_reducible apply Gw);(focus exact rfl);(focus exact rfl))|((with_reducible apply Gx);(focus exact rfl);(focus exact rfl))|((with_reducible apply Gy);(focus exact rfl);(focus exact rfl))|((with_reducible apply Gz);(focus exact rfl);(focus exact rfl))|((with_reducible apply GA);(focus exact rfl);(focus exact rfl))|((with_reducible apply GD);(focus exact rfl);(focus exact rfl))|((with_reducible apply Gt);(focus exact rfl))|((with_reducible apply Gr);(focus exact rfl);(focus ((conv=>lhs;whnf);(first|done|fail))))|((with_reducible apply Gs);(focus exact rfl);(focus ((conv=>lhs;whnf);(first|done|fail))))|((with_reducible apply GH);(focus exact rfl);(focus ((conv=>lhs;whnf);(first|done|fail))))|((with_reducible apply GI);(focus exact rfl))|((with_reducible apply GJ);(focus exact rfl);(focus ((conv=>lhs;whnf);(first|done|fail))))|((with_reducible apply GK);(focus exact rfl);(focus ((conv=>lhs;whnf);(first|done|fail))))|((with_reducible apply GL);(focus ((conv=>lhs;whnf);(first|done|fail))))|((with_reducible apply GM);(focus exact rfl))|((with_reducible apply GN);(focus exact rfl))|((with_reducible apply GQ);(focus exact rfl))|with_reducible exact Gv|((with_reducible apply GR);(focus exact rfl);(focus exact rfl);(focus exact rfl))|((with_reducible apply G9);(focus exact rfl);(focus exact rfl);(focus ((omega);(first|done|fail))))|((with_reducible apply DL);(focus exact rfl);(focus exact rfl);(focus ((omega);(first|done|fail)));(focus ((omega);(first|done|fail))))|((with_reducible apply GU);(focus exact rfl);(focus exact rfl);(focus ((omega);(first|done|fail)));(focus ((omega);(first|done|fail))))|((with_reducible apply Bh);(focus exact rfl);(focus exact rfl);(focus ((omega);(first|done|fail)));(focus ((omega);(first|done|fail))))|((with_reducible apply GG);(focus exact rfl);(focus exact rfl);(focus ((omega);(first|done|fail)));(focus ((omega);(first|done|fail))))|((with_reducible apply GY);(focus exact rfl);(focus exact rfl);(focus ((first|assumption|kernel_rfl);(first|done|fail))))|((with_reducible apply GZ);(focus exact rfl);(focus exact rfl);(focus ((first|assumption|kernel_rfl);(first|done|fail))))|((with_reducible apply G5);(focus exact rfl);(focus exact rfl))|((with_reducible apply G6);(focus exact rfl);(focus exact rfl))|((with_reducible apply G7);(focus exact rfl);(focus exact rfl);(focus ((omega);(first|done|fail)));(focus ((omega);(first|done|fail))))) rfl ?_)):
 R (λh=>aD P ds (⟨⟨some d,g,.append e size bytes s x⟩,re⟩::rest) (act n l D pm ro) h K) B w0 kl F:=
 abr hn hg hs hx hk hc hp hF hz hm hsm next
end
end Go.Ideal
namespace Go.Ideal
variable {P:Program}
section
variable {α κ:Type} [DecidableEq κ] {aX:κ->Value} {E:Enc α}
def mY(E:Enc α):List (κ×Value)->List (κ×List α)->List OA
 |p::ai,q::m=>ap E p.2 q.2::mY E ai m
 |_,_=>[]
def rJ(E:Enc α)(n:κ):List (κ×Value)->List (κ×List α)->List OA
 |p::ai,q::m=>if n=p.1 then mY E ai m else ap E p.2 q.2::rJ E n ai m
 |_,_=>[]
def Ee(aX:κ->Value)(E:Enc α)(b:Nat)(m:List (κ×List α)):OA:=
 ⟨λw S=>∃ai:List (κ×Value),ai.map (·.1)=m.map (·.1)/\fo w (gL aX b ai::mY E ai m) S,λa h ⟨ai,h1,h2⟩=>⟨ai,h1,fo.loc a h h2⟩⟩
def R5(E:Enc α)(n:κ)(ai:List (κ×Value))(m:List (κ×List α)):OA:=⟨λw S=>fo w (rJ E n ai m) S,λa h hp=>fo.loc a h hp⟩
def R6(E:Enc α)(ai:List (κ×Value))(m:List (κ×List α)):OA:=⟨λw S=>fo w (mY E ai m) S,λa h hp=>fo.loc a h hp⟩
def R7(E:Enc α)(ai:List (κ×Value))(m:List (κ×List α)):aF:=
 ⟨λw=>∀n v xs,dG n ai=some v->dG n m=some xs->(ah E v xs).p w,λa h n v xs h1 h2=>(ah E v xs).mono a (h n v xs h1 h2)⟩
theorem LY{β γ:Type}{n:κ}:∀{ai:List (κ×β)} {m:List (κ×γ)},ai.map (·.1)=m.map (·.1)->(dG n ai=none↔dG n m=none)
 |[],[],_=>⟨λ_=>rfl,λ_=>rfl⟩
 |(a,u)::ai,(b,x)::m,h=>by
  rw[gT,gT]at h;injection h with h1 h2;have h1:a=b:=h1;subst h1;unfold dG;by_cases e:n=a
  ·rw[if_pos e,if_pos e];exact⟨λh=>(nomatch h),λh=>(nomatch h)⟩
  ·rw[if_neg e,if_neg e];exact LY h2
 |[],_::_,h=>by cases h
 |_::_,[],h=>by cases h
theorem R8{n:κ}:∀{ai:List (κ×Value)} {m:List (κ×List α)},dG n ai=none->rJ E n ai m=mY E ai m
 |[],_,_=>by unfold rJ mY;rfl
 |_::_,[],_=>by unfold rJ mY;rfl
 |(a,u)::ai,(b,x)::m,h=>by
  unfold dG at h;by_cases e:n=a
  ·rw[if_pos e]at h;cases h
  ·rw[if_neg e]at h;unfold rJ mY;rw[if_neg e,R8 h]
theorem LZ{n:κ}{v:Value}{xs:List α}:∀{ai:List (κ×Value)} {m:List (κ×List α)},ai.map (·.1)=m.map (·.1)->dG n ai=some v->dG n m=some xs->az (ap E v xs) (mY E ai m) (rJ E n ai m)
 |[],_,_,h,_=>by cases h
 |_::_,[],h,_,_=>by cases h
 |(a,u)::ai,(b,x)::m,h,h1,h2=>by
  rw[gT,gT]at h;injection h with e1 e2;have e1:a=b:=e1;subst e1;unfold dG at h1 h2;unfold mY rJ;by_cases e:n=a
  ·rw[if_pos e]at h1 h2⊢;cases h1;cases h2;exact .here
  ·rw[if_neg e]at h1 h2⊢;exact .there (LZ e2 h1 h2)
theorem R9{n:κ}{v:Value}{xs:List α}:∀{ai:List (κ×Value)} {m:List (κ×List α)},ai.map (·.1)=m.map (·.1)->az (ap E v xs) (mY E (upd n v ai) (upd n xs m)) (rJ E n ai m)
 |[],[],_=>by unfold upd rJ mY mY;exact .here
 |[],_::_,h=>by cases h
 |_::_,[],h=>by cases h
 |(a,u)::ai,(b,x)::m,h=>by
  rw[gT,gT]at h;injection h with e1 e2;have e1:a=b:=e1;subst e1;unfold upd rJ;by_cases e:n=a
  ·rw[if_pos e,if_pos e,if_pos e];rw[show mY E ((n,v)::ai) ((n,xs)::m)=ap E v xs::mY E ai m from rfl];exact .here
  ·rw[if_neg e,if_neg e,if_neg e];rw[show mY E ((a,u)::upd n v ai) ((a,x)::upd n xs m)=ap E u x::mY E (upd n v ai) (upd n xs m)from rfl];exact .there (R9 e2)
theorem Ef{β γ:Type}{n:κ}{v:β}{x:γ}:∀{ai:List (κ×β)} {m:List (κ×γ)},ai.map (·.1)=m.map (·.1)->(upd n v ai).map (·.1)=(upd n x m).map (·.1)
 |[],[],_=>rfl
 |[],_::_,h=>by cases h
 |_::_,[],h=>by cases h
 |(a,u)::ai,(b,y)::m,h=>by
  rw[gT,gT]at h;injection h with e1 e2;have e1:a=b:=e1;subst e1;unfold upd;by_cases e:n=a
  ·rw[if_pos e,if_pos e,gT,gT,e2]
  ·rw[if_neg e,if_neg e,gT,gT,Ef e2]
variable {B:List Nat} {w0:Wd} {kl kl' bB k1 k2:List OA} {F:List aF} {Q:IH->Prop} {b:Nat} {m:List (κ×List α)}
theorem abt(E:Enc α)(h:R Q B w0 (Ee aX E b ([]:List (κ×List α))::kl') F)(hk:az (gL aX b []) kl kl':=by exact gK):R Q B w0 kl F:=
 .perm (λw S hS=>by
  obtain⟨S',⟨T1,T2,u1,u2,e⟩,hp⟩:=hS.gI hk;exact⟨S',⟨T1,T2,⟨[],rfl,T1,[],u1,rfl,by simp⟩,u2,e⟩,hp⟩) h
theorem abu(n:κ)(hk:az (Ee aX E b m) kl kl':=by exact gK)
 (h:∀(ai:List (κ×Value)) (v:Value),ai.map (·.1)=m.map (·.1)->kv false (.slice none 0 0) n ai=v->R Q B w0 (gL aX b ai::ap E v ((dG n m).getD [])::R5 E n ai m::kl') F):R Q B w0 kl F:=λw s=>by
 obtain⟨S,⟨S1,S2,⟨ai,hkeys,T1,T2,u1,u2,e1⟩,q2,e⟩,hnd,hall⟩:=(s.gI hk).own;have key:∃T',fo w (ap E (kv false (.slice none 0 0) n ai) ((dG n m).getD [])::rJ E n ai m) T'/\T2.Perm T':=by
  cases hl:dG n ai with
  |none=>
   have hm:=(LY (n:=n) hkeys).1 hl;have e1:kv false (.slice none 0 0) n ai=.slice none 0 0:=by unfold kv;rw[hl];rfl
   rw[e1,hm,R8 hl];exact⟨T2,⟨[],T2,.inl ⟨rfl,rfl,rfl⟩,u2,rfl⟩,.refl _⟩
  |some v=>
   cases hm:dG n m with
   |none=>rw[(LY (n:=n) hkeys).2 hm]at hl;cases hl
   |some xs=>
    have e1:kv false (.slice none 0 0) n ai=v:=by unfold kv;rw[hl];rfl
    rw[e1];exact u2.gI (LZ hkeys hl hm)
 obtain⟨T',⟨T3,T4,u3,u4,e3⟩,hp⟩:=key;subst e e1 e3;have hperm:((T1++T2)++S2).Perm (T1++(T3++(T4++S2))):=by
  rw[fB];refine List.Perm.append_left T1 ?_;rw[<- fB];exact List.Perm.append_right S2 hp
 exact h ai _ hkeys rfl w ⟨s.agree,s.le,s.fI,⟨_,⟨T1,_,u1,⟨T3,_,u3,⟨T4,S2,u4,q2,rfl⟩,rfl⟩,rfl⟩,hperm.nodup hnd,λi hi=>hall i (hperm.mem_iff.2 hi)⟩,s.facts⟩
theorem abv(n:κ){ai:List (κ×Value)}{v:Value}{xs:List α}(hkeys:ai.map (·.1)=m.map (·.1))(h:R Q B w0 (Ee aX E b (upd n xs m)::bB) F)
 (h1:az (gL aX b (upd n v ai)) kl k1:=by exact gK) (h2:az (ap E v xs) k1 k2:=by exact gK) (h3:az (R5 E n ai m) k2 bB:=by exact gK):R Q B w0 kl F:=
 .perm (λw S hS=>by
  obtain⟨S1,S2,q1,q2,hp⟩:=hS.jy (.cons h1 (.cons h2 (.cons h3 .nil)));obtain⟨T1,U1,u1,⟨T2,U2,u2,⟨T3,U3,u3,u4,e3⟩,e2⟩,e1⟩:=q1;have u4:U3=[]:=u4;subst u4 e3 e2 e1;obtain⟨V,v1,v2⟩:=fo.Lu (R9 (E:=E) (n:=n) (v:=v) (xs:=xs) hkeys) (S:=T2++T3) (w:=w) ⟨T2,T3,u2,u3,rfl⟩;refine⟨(T1++V)++S2,⟨T1++V,S2,⟨upd n v ai,Ef hkeys,⟨T1,V,u1,v1,rfl⟩⟩,q2,rfl⟩,hp.trans ?_⟩;rw[gN];exact List.Perm.append_right S2 (List.Perm.append_left T1 v2)) h
theorem abw(h:∀ai:List (κ×Value),ai.map (·.1)=m.map (·.1)->R Q B w0 (gL aX b ai::R6 E ai m::kl') F)(hk:az (Ee aX E b m) kl kl':=by exact gK):R Q B w0 kl F:=λw s=>by
 obtain⟨S,⟨S1,S2,⟨ai,hkeys,T1,T2,u1,u2,e1⟩,q2,e⟩,hnd,hall⟩:=(s.gI hk).own;subst e e1;refine h ai hkeys w ⟨s.agree,s.le,s.fI,⟨T1++(T2++S2),⟨T1,_,u1,⟨T2,S2,u2,q2,rfl⟩,rfl⟩,?_,λi hi=>hall i ?_⟩,s.facts⟩
 ·rw[<- fB];exact hnd
 ·rw[fB];exact hi
theorem abx{ai:List (κ×Value)}(hkeys:ai.map (·.1)=m.map (·.1)):rD (R6 E ai m) [R7 E ai m]:=by
 intro w w' S hS hle hh hz f hf;rw[bI.1 hf];have hS:fo w (mY E ai m) S:=hS;clear hf;intro n v xs h1 h2;obtain⟨S',⟨T1,T2,u1,_,e⟩,hp⟩:=hS.gI (LZ hkeys h1 h2);subst e;exact fV w w' T1 u1 hle hh (λi hi=>hz i (hp.mem_iff.2 (kF _ hi))) _ (bI.2 rfl)
end
end Go.Ideal
namespace Go.Ideal
variable {P:Program} {B:List Nat} {w0:Wd} {kl kl' bB:List OA} {F:List aF} {K:KO} {ds:List Tmp} {rest:List bT} {n:Nat} {l:List (Nat×Value)} {D:List Deferred} {pm:Option FrameMode} {ro:Option Nat} {d:Nat} {g:Option (Tmp×Bool)}
theorem HZ{α:Type}(E:Enc α){x i:Operand}{v:Value}{xss:List (List α)}(k:Nat)(xs:List α){kk:IntKind}{d2:Nat}{g2:Option (Tmp×Bool)}(hz:xss[k]? =some xs)
 (next:∀b o u,R (λh=>aD P ds rest (act n ((d2,u)::(d,.pointer (some ⟨b,o,none⟩))::l) D pm ro) h K) B w0 kl (ah E u xs::F))
 (hn:Nat.blt d n=true:=by rfl) (hg:bX l g=true:=by rfl) (hn2:Nat.blt d2 n=true:=by rfl) (hg2:∀u,bX ((d,u)::l) g2=true:=by intro _;rfl) (hx:ev l x=v:=by conv=>lhs;whnf) (hi:ev l i=.int kk (k:Int):=by rfl)
 (hk:az (ap (aj E) v xss) kl kl':=by exact gK):
 R (λh=>aD P ds (⟨⟨some d,g,.mR 1 x i⟩,[]⟩::⟨⟨some d2,g2,.gM (.tmp d)⟩,[]⟩::rest) (act n l D pm ro) h K) B w0 kl F:=by
 intro w s;have s1:=s.gI hk;obtain⟨S,⟨S1,S2,p,p2,e⟩,h2,h3⟩:=s1.own;have hlt:=(bP.1 hz).1;rcases p with⟨h,_⟩|⟨b,o,f,cells,e1,hf,e2,hb,hcl,hel⟩
 ·rw[h]at hz;cases hz
 ·subst e1;obtain⟨y,u1,u2⟩:=hel k xs hz;have hc:cells[o+(k:Int).toNat*1]? =some y:=by
   have:=u1 0 y rfl;simpa[aj]using this
  refine K8 hn hg hx hi (by omega) (by omega) ?_;have hbS:b∈S:=by rw[e,e2];simp
  refine Gh hn2 (hg2 _) (by show lk _ d=_;simp[lk]) ⟨(h3 b hbS).2.1,hb⟩ hc (next _ _ y w ⟨s.agree,s.le,s.fI,s.own,λf hf=>?_⟩);rcases dH.1 hf with rfl|hf
  ·exact u2 _ (bI.2 rfl)
  ·exact s.facts f hf
end Go.Ideal
namespace Go.Ideal
variable {P:Program} {B:List Nat} {w0:Wd} {kl kl' bB k1 k2:List OA} {F:List aF} {Q:IH->Prop}
section
variable {β:Type} (A:Value->β->OA)
def rM(vs:List Value)(xss:List β):List OA:=(vs.zip xss).map λp=>A p.1 p.2
def mZ(b:Nat)(xss:List β):OA:=
 ⟨λw S=>∃vs:List Value,vs.length=xss.length/\fo w (pt b (.cells vs)::rM A vs xss) S,λa h ⟨vs,h1,h2⟩=>⟨vs,h1,fo.loc a h h2⟩⟩
def Sa(vs:List Value)(xss:List β)(k:Nat):OA:=
 ⟨λw S=>fo w ((rM A vs xss).eraseIdx k) S,λa h hp=>fo.loc a h hp⟩
theorem Sb{vs:List Value}{xss:List β}{k:Nat}{v:Value}{xs:β}(hv:vs[k]? =some v)(hx:xss[k]? =some xs):(rM A vs xss)[k]? =some (A v xs):=by
 simp[rM,List.zip,fA,List.getElem?_zipWith,hv,hx]
theorem Sc{b:Nat}{xss:List β}{k:Nat}{xs:β}(hx:xss[k]? =some xs)(hk:az (mZ A b xss) kl kl':=by exact gK)
 (h:∀(vs:List Value) (v:Value),vs.length=xss.length->vs[k]? =some v->R Q B w0 (pt b (.cells vs)::A v xs::Sa A vs xss k::kl') F):R Q B w0 kl F:=λw s=>by
 obtain⟨S,⟨S1,S2,⟨vs,h1,h2⟩,q2,e⟩,hnd,hall⟩:=(s.gI hk).own;subst e;have hlt:=(bP.1 hx).1;have hv:vs[k]? =some (vs[k]'(by omega)):=cO (by omega);refine h vs _ h1 hv w ?_;have hg:(rM A vs xss)[k]? =some (A (vs[k]'(by omega)) xs):=Sb A hv hx;obtain⟨T1,T2,u1,u2,e⟩:=h2;obtain⟨T3,⟨T4,T5,u4,u5,e5⟩,u6⟩:=u2.gI (az.at hg);subst e5 e;have hperm:((T1++T2)++S2).Perm (T1++(T4++(T5++S2))):=by
  rw[fB];refine List.Perm.append_left T1 ?_;rw[<- fB];exact List.Perm.append_right S2 u6
 exact⟨s.agree,s.le,s.fI,⟨T1++(T4++(T5++S2)),⟨T1,_,u1,⟨T4,_,u4,⟨T5,S2,u5,q2,rfl⟩,rfl⟩,rfl⟩,hperm.nodup hnd,λi hi=>hall i (hperm.mem_iff.2 hi)⟩,s.facts⟩
theorem aby{vs:List Value}{xss:List β}{k:Nat}{v:Value}{xs:β}:rM A (vs.set k v) (xss.set k xs)=(rM A vs xss).set k (A v xs):=by
 apply kE;intro j;simp only[rM,fA,uV,List.zip,List.getElem?_zipWith];by_cases e:k=j
 ·subst e;by_cases h1:k<vs.length
  ·by_cases h2:k<xss.length
   ·simp[h1,h2];omega
   ·simp[h1,h2];omega
  ·simp[h1];omega
 ·simp[e]
theorem Sd{b:Nat}{xss:List β}{vs:List Value}{k:Nat}{v:Value}{xs:β}(hlen:vs.length=xss.length)(hk:k<xss.length)(h1:az (pt b (.cells (vs.set k v))) kl k1:=by exact gK)
 (h2:az (A v xs) k1 k2:=by exact gK) (h3:az (Sa A vs xss k) k2 bB:=by exact gK) (h:R Q B w0 (mZ A b (xss.set k xs)::bB) F):R Q B w0 kl F:=
 .perm (λw S hS=>by
  obtain⟨S1,S2,q1,q2,hp⟩:=hS.jy (.cons h1 (.cons h2 (.cons h3 .nil)));obtain⟨T1,U1,u1,⟨T2,U2,u2,⟨T3,U3,u3,u4,e3⟩,e2⟩,e1⟩:=q1;have u4:U3=[]:=u4;subst u4 e3 e2 e1;have hl:((rM A vs xss).set k (A v xs))[k]? =some (A v xs):=by
   rw[uV,if_pos rfl,if_pos (by simp[rM];omega)]
  obtain⟨V,v1,v2⟩:=fo.Lu (az.at hl) (S:=T2++T3) (w:=w) ⟨T2,T3,u2,by rw[Q6];exact u3,rfl⟩;refine⟨(T1++V)++S2,⟨T1++V,S2,⟨vs.set k v,by simp[hlen],⟨T1,V,u1,by rw[aby];exact v1,rfl⟩⟩,q2,rfl⟩,hp.trans ?_⟩;rw[gN];exact List.Perm.append_right S2 (List.Perm.append_left T1 v2)) h
theorem abz{b m:Nat}{v0:Value}{x0:β}(h0:∀w,(A v0 x0).p w [])(hk:az (pt b (.cells (List.replicate m v0))) kl kl':=by exact gK)(h:R Q B w0 (mZ A b (List.replicate m x0)::kl') F):R Q B w0 kl F:=
 .perm (λw S hS=>by
  obtain⟨S',⟨T1,T2,u1,u2,e⟩,hp⟩:=hS.gI hk;refine⟨S',⟨T1,T2,⟨List.replicate m v0,by simp,⟨T1,[],u1,?_,by simp⟩⟩,u2,e⟩,hp⟩;have:∀m,fo w (rM A (List.replicate m v0) (List.replicate m x0)) []:=by
   intro m;induction m with
   |zero=>rfl
   |succ m ih=>exact⟨[],[],h0 w,ih,rfl⟩
  exact this m) h
theorem abA{E:Enc β}{b c:Nat}{xss:List β}(fv:Value->E.Y)(hn:E.n=1)(hpat:∀x v,E.pat x (fv v)=[v])(hA:∀v xs,rD (A v xs) (E.fs xs (fv v)))(hc:xss.length<=c:=by first|exact bQ _|omega):rD (mZ A b xss) [ah E (.slice (some ⟨b,0,some 0⟩) xss.length c) xss]:=by
 intro w w' S ⟨vs,hlen,T1,T2,⟨h1,h2⟩,u2,e⟩ hle hh hz f hf;subst e;rw[bI.1 hf];refine .inr ⟨b,0,0,c,vs,⟨rfl,hc,.inl rfl⟩,⟨hz b (by rw[h1];simp),.inl (by rw[hh];exact h2)⟩,λk xs hk=>?_⟩;have hlt:=(bP.1 hk).1;have hv:vs[k]? =some (vs[k]'(by omega)):=cO (by omega);have hg:(rM A vs xss)[k]? =some (A (vs[k]'(by omega)) xs):=Sb A hv hk;obtain⟨T3,⟨T4,T5,u4,u5,e5⟩,u6⟩:=u2.gI (az.at hg);subst e5;refine⟨fv (vs[k]'(by omega)),λj u hj=>?_,λg hgm=>?_⟩
 ·rw[hpat]at hj;match j,hj with
  |0,hj=>
   cases hj;show vs[0+k*E.n+0]? =_;rw[hn];simp
 ·exact hA _ _ w w' T4 u4 hle hh (λi hi=>hz i (o9 _ (u6.mem_iff.2 (kF _ hi)))) g hgm
end
def H6{α:Type}(v:Value)(xs:List α):aF:=⟨λ_=>xs=[]->v=.slice none 0 0,λ_ h=>h⟩
def kL{α:Type}(E:Enc α)(v:Value)(xs:List α):OA:=⟨λw S=>(ap E v xs).p w S/\(xs=[]->v=.slice none 0 0),λa h hp=>⟨(ap E v xs).loc a h hp.1,hp.2⟩⟩
def rO{α:Type}(E:Enc α):Enc (List α):=⟨1,Value,λ_ v=>[v],λxs v=>[ah E v xs,H6 v xs],λ_ _=>rfl⟩
theorem abB{α:Type}{E:Enc α}{v:Value}{xs:List α}:rD (kL E v xs) [ah E v xs,H6 v xs]:=by
 intro w w' S hp hle hh hz f hf;rcases dH.1 hf with rfl|hf
 ·exact fV w w' S hp.1 hle hh hz _ (bI.2 rfl)
 ·rw[bI.1 hf];exact hp.2
theorem Sg{α:Type}(E:Enc α)(v:Value)(xs:List α)(h:(xs=[]->v=.slice none 0 0)->R Q B w0 (ap E v xs::kl') F)(hk:az (kL E v xs) kl kl':=by exact gK):R Q B w0 kl F:=λw s=>by
 obtain⟨S,⟨S1,S2,q1,q2,e⟩,h2,h3⟩:=(s.gI hk).own;exact h q1.2 w ⟨s.agree,s.le,s.fI,⟨S,⟨S1,S2,q1.1,q2,e⟩,h2,h3⟩,s.facts⟩
theorem Si{α:Type}(E:Enc α)(v:Value)(xs:List α)(hz:xs=[]->v=.slice none 0 0)(h:R Q B w0 (kL E v xs::kl') F)(hk:az (ap E v xs) kl kl':=by exact gK):R Q B w0 kl F:=λw s=>
 h w ((s.gI hk).Bg (A:=ap E v xs) λw S hp=>⟨hp,hz⟩)
theorem Sj{α:Type}{E:Enc α}{v:Value}{xss:List (List α)}{w:Wd}(h:(ah (rO E) v xss).p w):(ah (aj E) v xss).p w:=by
 rcases h with h|⟨i,o,f,c,cells,h1,h2,h3⟩
 ·exact .inl h
 ·refine .inr ⟨i,o,f,c,cells,h1,h2,λk x hk=>?_⟩;obtain⟨y,q1,q2⟩:=h3 k x hk;exact⟨y,q1,λf hf=>q2 f (by rw[bI.1 hf];exact dM ..)⟩
theorem BF{A A':OA}(e:A=A')(h:R Q B w0 (A'::kl') F)(hk:az A kl kl':=by exact gK):R Q B w0 kl F:=by
 subst e;exact λw s=>h w (s.gI hk)
theorem St.Sk{α:Type}{E:Enc α}{v:Value}{aL:List (α×E.Y)}{w:Wd}(h0:0<aL.length)(hall:(vX E aL).p w)(s:St B w0 (ar E v aL::kl') F w):St B w0 (ap E v (aL.map (·.1))::kl') F w:=by
 obtain⟨S,⟨S1,S2,q1,q2,e⟩,h2,h3⟩:=s.own;refine⟨s.agree,s.le,s.fI,⟨S,⟨S1,S2,?_,q2,e⟩,h2,h3⟩,s.facts⟩;rcases q1 with⟨h4,_⟩|⟨b,f,h4,h5,h6,h7⟩
 ·rw[h4]at h0;simp at h0
 ·refine .inr ⟨b,0,f,_,by rw[cz];exact h4,h5,h6,h7,by rw[Eb,cz,fD],λk x hk=>?_⟩;rw[fA]at hk;cases hp:aL[k]? with
  |none=>rw[hp]at hk;cases hk
  |some p=>
   rw[hp]at hk;cases hk;exact⟨p.2,λj u hj=>by rw[fD];exact zH hp hj,λf hf=>hall p (bH hp) f hf⟩
theorem abC{α:Type}{E:Enc α}{v:Value}{aL:List (α×E.Y)}(h0:0<aL.length)(h:R Q B w0 (ap E v (aL.map (·.1))::kl') F)(hfs:∀w,(∀f∈F,f.p w)->(vX E aL).p w)(hk:az (ar E v aL) kl kl':=by exact gK):R Q B w0 kl F:=λw s=>
 h w (St.Sk h0 (hfs w s.facts) (s.gI hk))
end Go.Ideal
namespace Go.Ideal
variable {P:Program}
def L6{α:Type}(P:Program)(vals:α->List Value)(fe:α->List aF)(fn:Fn)(first cap:List Value)(F:List aF)(X:List α->Prop):Prop:=
 ∀(S:Type) (inv:S->List OA) (ok:List α->S->Prop) (step:S->α->S×Bool) (s0:S) (uB:Fn) (y1 y2:List Value) (F':List aF),ok [] s0->
  (∀vs s x rest,ok vs s->X (vs++x::rest)->(step s x).2=true->ok (vs++[x]) (step s x).1)->
  (∀vs s x rest,ok vs s->X (vs++x::rest)->bn P uB (y1++vals x) y2 (inv s) (fe x++F') (λ_:Unit=>.bool (step s x).2) (λ_=>inv (step s x).1) (λ_=>[]) (λ_=>True))->
  bn P fn (first++[.func uB ⟨y1⟩ ⟨y2⟩]) cap (inv s0) (F++F') (λ_:List α=>.tuple ⟨[]⟩) (λxs=>inv (gQ step s0 xs)) (λ_=>[]) X
theorem bn.facts{Y:Type}{fn:Fn}{args cap:List Value}{kl:List OA}{F F2:List aF}{val:Y->Value}{kl':Y->List OA}{fs:Y->List aF}{pr:Y->Prop}(h:bn P fn args cap kl F val kl' fs pr)(hF:∀f∈F,f∈F2):bn P fn args cap kl F2 val kl' fs pr:=
 λB w s=>h B w ⟨s.agree,s.le,s.fI,s.own,λf hf=>s.facts f (hF f hf)⟩
section
variable {B:List Nat} {w0:Wd} {kl kl' bB:List OA} {F:List aF} {K:KO} {n:Nat} {l:List (Nat×Value)} {D:List Deferred} {pm:Option FrameMode} {ro:Option Nat}
theorem abD{S α Z:Type}{f:Operand}{ps:List Tmp}{assign body:dm}{fn:Fn}{first captured:List Value}{vals:α->List Value}{fe:α->List aF}{F1:List aF}{X:List α->Prop}(step:S->α->S×Out)(inv:S->List OA)(ok:List α->S->Prop)(s0:S)(h0:ok [] s0)
 (hok:∀vs s x rest,ok vs s->X (vs++x::rest)->(step s x).2=.normal->ok (vs++[x]) (step s x).1) (hit:L6 P vals fe fn first captured F1 X)
 (hf:ev l f=.func fn ⟨first⟩ ⟨captured⟩) (hps:ps.all (λp=>Nat.blt p n)=true) (hlen:∀x,ps.length=(vals x).length) (hk:aG (inv s0) kl bB) (hF:Sub F1 F) (jg:∀s x,zx (step s x).2)
 (l3:α->Z->List (Nat×Value)) (k3:α->Z->List OA)
 (ha:∀(s:S) (x:α) (lo:Nat) (o:dz) B w0,R (λh=>EV P assign (act n ((ps.zip (vals x)).reverse++l) [] none (some lo)) h (Bz B w0 n (l3 x) lo o (λz=>k3 x z++inv s) (fe x++F))) B w0 (pt lo o::inv s) (fe x++F))
 (hb:∀(vs:List α) (s:S) (x:α) (rest:List α) (z:Z) (lo:Nat) (L:mU) B w0,ok vs s->X (vs++x::rest)->R (λh=>EV P body (act n (l3 x z) [] none (some lo)) h (zy B w0 lo L (λ_:Unit=>(step s x).2) (λ_=>inv (step s x).1) (λ_=>[]) (λ_=>True))) B w0 (pt lo (.loop (uy L))::(k3 x z++inv s)) (fe x++F))
 (next:∀r xs,X xs->R (λh=>K (ji step s0 xs).2 (act n l ({target:=.collected r,args:= #[]}::D) pm none) h) B w0 (inv (ji step s0 xs).1++(pt r (.iq true)::bB)) F):
 R (λh=>EV P (.rangeFunc f ps assign body) (act n l D pm none) h K) B w0 kl F:=by
 refine QX (Y:=List α) (k1:=inv s0) (F1:=F1++F) (Hg:=λ_=>.tuple ⟨[]⟩) (out:=λxs=>(ji step s0 xs).2) (k1':=λxs=>inv (ji step s0 xs).1) (fs:=λ_=>[]) (pr:=X) hf ?_ hk (hF.app (Sub.refl' F [])) (λr y hy=>next r y hy);intro lo r;have:=hit (S×Out) (λso=>pt lo (.loop (lC ⟨.ready,none,gU l,n,ps,assign,body,r⟩ so.2))::inv so.1) (λvs so=>so.2=.normal/\ok vs so.1) (λso x=>(step so.1 x,lW (step so.1 x).2)) (s0,.normal) (.yield lo) [] [] F ⟨rfl,h0⟩
  (λvs so x rest ho hx h=>by
    have h:lW (step so.1 x).2=true:=h;have hn:(step so.1 x).2=.normal:=by
     cases e:(step so.1 x).2 with
     |normal=>rfl
     |_=>rw[e]at h;cases h
    exact⟨hn,hok vs so.1 x rest ho.2 hx hn⟩)
  (λvs so x rest ho hx=>by
    obtain⟨s,o⟩:=so;obtain⟨hn,ho⟩:=ho;have hn:o=.normal:=hn;subst hn;exact RG (Y:=Unit) (L:=⟨.ready,none,gU l,n,ps,assign,body,r⟩) (args:=vals x) (k1:=inv s) (out:=λ_=>(step s x).2) (k1':=λ_=>inv (step s x).1) (fs:=λ_=>[]) (pr:=λ_=>True) l (l3 x) (λz=>k3 x z++inv s) rfl rfl hps (hlen x)
     (λB w0=>ha s x lo _ B w0) (λz B w0=>hb vs s x rest z lo _ B w0 ho hx))
 have e:(λxs:List α=>pt lo (.loop (lC ⟨.ready,none,gU l,n,ps,assign,body,r⟩ (gQ (λ(so:S×Out) x=>(step so.1 x,lW (step so.1 x).2)) (s0,.normal) xs).2))::inv (gQ (λ(so:S×Out) x=>(step so.1 x,lW (step so.1 x).2)) (s0,.normal) xs).1)=λxs=>pt lo (.loop (lC ⟨.ready,none,gU l,n,ps,assign,body,r⟩ (ji step s0 xs).2))::inv (ji step s0 xs).1:=by
  funext xs
  rw[Lt]
 have h2:bn P fn (first++[.func (.yield lo) ⟨[]⟩ ⟨[]⟩]) captured (pt lo (.loop ⟨.ready,none,gU l,n,ps,assign,body,r⟩)::inv s0) (F1++F) (λ_:List α=>.tuple ⟨[]⟩) (λxs=>pt lo (.loop (lC ⟨.ready,none,gU l,n,ps,assign,body,r⟩ (gQ (λ(so:S×Out) x=>(step so.1 x,lW (step so.1 x).2)) (s0,.normal) xs).2))::inv (gQ (λ(so:S×Out) x=>(step so.1 x,lW (step so.1 x).2)) (s0,.normal) xs).1) (λ_=>[]) X:=this;rw[e]at h2;exact h2
theorem Sl{S α Z:Type}{f:Operand}{ps:List Tmp}{assign body:dm}{fn:Fn}{first captured:List Value}{vals:α->List Value}{fe:α->List aF}{F1:List aF}{X:List α->Prop}(step:S->α->S×Out)(inv:S->List OA)(ok:List α->S->Prop)(s0:S)(l3:α->Z->List (Nat×Value))(k3:α->Z->List OA)(h0:ok [] s0)
 (hok:∀vs s x rest,ok vs s->X (vs++x::rest)->(step s x).2=.normal->ok (vs++[x]) (step s x).1) (hit:L6 P vals fe fn first captured F1 X)
 (ha:∀(s:S) (x:α) (lo:Nat) (o:dz) B w0,R (λh=>EV P assign (act n ((ps.zip (vals x)).reverse++l) [] none (some lo)) h (Bz B w0 n (l3 x) lo o (λz=>k3 x z++inv s) (fe x++F))) B w0 (pt lo o::inv s) (fe x++F))
 (hb:∀(vs:List α) (s:S) (x:α) (rest:List α) (z:Z) (lo:Nat) (L:mU) B w0,ok vs s->X (vs++x::rest)->R (λh=>EV P body (act n (l3 x z) [] none (some lo)) h (zy B w0 lo L (λ_:Unit=>(step s x).2) (λ_=>inv (step s x).1) (λ_=>[]) (λ_=>True))) B w0 (pt lo (.loop (uy L))::(k3 x z++inv s)) (fe x++F))
 (next:∀r xs,X xs->R (λh=>K (ji step s0 xs).2 (act n l ({target:=.collected r,args:= #[]}::D) pm none) h) B w0 (inv (ji step s0 xs).1++(pt r (.iq true)::bB)) F)
 (jg:∀s x,zx (step s x).2)
 (hf:ev l f=.func fn ⟨first⟩ ⟨captured⟩:=by rfl) (hps:ps.all (λp=>Nat.blt p n)=true:=by rfl) (hlen:∀x,ps.length=(vals x).length:=by intro _;rfl)
 (hk:aG (inv s0) kl bB:=by exact lV) (hF:Sub F1 F:=by exact lu):
 R (λh=>EV P (.rangeFunc f ps assign body) (act n l D pm none) h K) B w0 kl F:=
 abD step inv ok s0 h0 hok hit hf hps hlen hk hF jg l3 k3 ha hb next
end
section
variable {B:List Nat} {w0:Wd} {kl:List OA} {F:List aF}
theorem abE{α:Type}(E:Enc α){v:Value}{xs:List α}{k:Nat}{x:α}{Q:IH->Prop}(n:Nat)(hn:E.n=n)(hx:xs[k]? =some x)
 (h:∀b o f c y,v=.slice (some ⟨b,o,some f⟩) xs.length c->R Q B w0 kl (eH b (o+k*n) (E.pat x y)::(E.fs x y++F))) (hf:ah E v xs∈F:=by exact vS):R Q B w0 kl F:=λw s=>by
 subst hn;rcases s.facts _ hf with⟨h0,_⟩|⟨i,o,f,c,cells,⟨h1,_⟩,h2,h3⟩
 ·rw[h0]at hx;cases hx
 ·obtain⟨y,q1,q2⟩:=h3 k x hx;refine h i o f c y h1 w ⟨s.agree,s.le,s.fI,s.own,λg hg=>?_⟩;rcases dH.1 hg with rfl|hg
  ·exact⟨cells,h2,q1⟩
  ·rcases dZ.1 hg with hg|hg
   ·exact q2 g hg
   ·exact s.facts g hg
end
end Go.Ideal
namespace Go.Ideal
variable {P:Program} {B:List Nat} {w0:Wd} {kl kl' bB:List OA} {F:List aF} {K:KO} {ds:List Tmp} {rest:List bT} {n:Nat} {l:List (Nat×Value)} {D:List Deferred} {pm:Option FrameMode} {ro:Option Nat} {d:Nat} {g:Option (Tmp×Bool)}
end Go.Ideal
namespace Go.Ideal
open Go.RowKit Go.WideShapes Go.ChangeShapes
variable {P:Program}
def rP(n:Nat):Lay:=(List.range n).map λg=>(some ⟨g,0,0,0,0⟩,none)
theorem Sm{n i:Nat}(h:i<n):(rP n)[i]? =some (some ⟨i,0,0,0,0⟩,none):=by
 unfold rP;rw[fA,Fa h];rfl
theorem abF(n:Nat):(rP n).length=n:=by unfold rP;rw[cz,Fh]
theorem abG(zl:P.follows .mixedOrders=true){f:FuncId}(fn:Func)(hfn:P.funcs[f]? =some fn)(hbody:fn.body.isNone=false)(hname:(fn.name== "runtime.NumGoroutine")=false){args args':List Value}{L:Lay}{w:World}{v:Value}(abH:jX P (jH L))
 (hL:∀(i:Nat) g cs,L[i]? =some (some g,some cs)->Bf L w g cs) (hargs:aV (jH L) args args') (hv:bR v=true)
 (hc:CALL P ⟨.func f,args,[],none⟩ (jY L) (λr pm h'=>pm=none/\r=.ok v/\Agree (jY L) h')):
 Calls P f ⟨args'⟩ w (λe w'=>e=.returned v/\Below w.heap.size w w'):=by
 have hM:=Zb zl hc;have hW:WR P (jH L) (jY L) w:=Zx hL;obtain⟨nx,F0,n1,n2,n3⟩:=hM (jH L) w (.func f) args' [] abH hW (.func f) hargs .nil;have hnx:nx=.enter f ⟨args'⟩:=by
  have hcall:(callFunc f ⟨args'⟩).run P w=.ok (.enter f ⟨args'⟩) w:=by
   simp only[callFunc,dx,run_program,dB,hfn,hname,hbody,tQ,if_false,eP]
  have e:(⟨args'⟩:Array Value)++(⟨[]⟩:Array Value)=⟨args'⟩:=by apply Array.ext';simp
  have n1:(invoke (.fn (.func f) ⟨[]⟩) ⟨args'⟩).run P w=.ok nx w:=n1;simp only[invoke,e]at n1;rw[hcall]at n1;cases n1;rfl
 subst hnx;have vR:F0=Frame.enter P f ⟨args'⟩ .normal:=by
  have:entry P .normal (.enter f ⟨args'⟩)=some (Frame.enter P f ⟨args'⟩ .normal):=rfl;have n2:entry P .normal (.enter f ⟨args'⟩)=some F0:=n2;rw[this]at n2;exact(Option.some.inj n2).symm
 subst vR;intro cs;obtain⟨r,pm',h',β',w',r',cs1,q1,q2,q3,q4,q5,q6⟩:=n3 cs (by intro m hm;cases hm);obtain⟨hp,rfl,hag⟩:=q1;cases q5;cases q4 with
 | @ok v v' qw=>
   have:=qw.nY hv;subst this;rcases q6 with⟨f1,a1,F1,e1,e2,e3,e4,e5⟩|⟨⟨_,l,e1⟩,_⟩
   ·cases e1;refine⟨.returned v',w',F1,⟨rfl,?_⟩,e2,e3,?_⟩
    ·refine⟨q3.os,q3.tape,q3.output,q3.size,λk hk=>?_⟩;by_cases hx:∀i g,jH L i=some g->(jY L).get i≠none->g.b≠k
     ·exact q3.keep k hk hx
     ·have hx:∃i g,jH L i=some g/\(jY L).get i≠none/\g.b=k:=by
       apply Classical.byContradiction;intro hc;exact hx λi g hi hg hb=>hc ⟨i,g,hi,hg,hb⟩
      obtain⟨i,g,hi,hg,rfl⟩:=hx;have hin:=hW.dom i g hi;exact q3.qo i g (by rw[hag.low (bQ _)];exact hin) hin hi hg hk
    ·obtain⟨t1,t2,fn,t3,t4⟩:=e5;exact⟨t1,t2,e4,fn,t3,t4⟩
   ·cases e1
section
variable {H:Type} {enc:TypeId×Value->H} {W:World}
theorem abI(zl:P.follows .mixedOrders=true){f:FuncId}(fn:Func)(hfn:P.funcs[f]? =some fn)(hbody:fn.body.isNone=false)(hname:(fn.name== "runtime.NumGoroutine")=false){K:TypeId->Prop}
 (hK:∀t,K t->PlainT P K t) {ts:List TypeId} {vs:List Value} {ds:List (DataW H)} {ps:List MemPlace} (hT:∀t∈ts,K t) (hok:∀(j:Nat) t v,ts[j]? =some t->vs[j]? =some v->Value.okWide P W .any 0 t v)
 (hA:DataW.TrodAll enc P W 0 (λ_=>true) true ts vs ds ps)
 (abJ:∀(w:Wd) (vs':List Value),P.globals.size<=w.h.next->(∀i,i<w.h.next->w.z i)->vs'.length=vs.length->(∀(j:Nat) t v d,ts[j]? =some t->vs'[j]? =some v->ds[j]? =some d->xQ P w t v d)->∃F,(∀f∈F,f.p w)/\cK P f vs' F (.bool true)):
 Calls P f ⟨vs⟩ W (λe w'=>e=.returned (.bool true)/\Below W.heap.size W w'):=by
 obtain⟨M,vs',h1,h2,h3⟩:=QD hK hT hok hA (rP P.globals.size);have hlG:=abF P.globals.size;refine abG zl fn hfn hbody hname (L:=rP P.globals.size++M) (args:=vs') (λg hg=>⟨⟨g,0,0,0,0⟩,?_,rfl,rfl⟩) (λi g cs hi=>?_) h1 rfl ?_
 ·unfold jH;rw[nT (by omega),Sm hg];rfl
 ·by_cases hlt:i<P.globals.size
  ·rw[nT (by omega),Sm hlt]at hi;cases hi
  ·exact h3 i g cs (by omega) hi
 have hlen:vs'.length=vs.length:=by
  have:∀{a b:List Value},aV (jH (rP P.globals.size++M)) a b->a.length=b.length:=by
   intro a;induction a with
   |nil=>intro b h;cases h;rfl
   |cons x a ih=>intro b h;cases h with|cons q r=>simp[ih r]
  exact this h1
 obtain⟨F,hF,hfn'⟩:=abJ (He (rP P.globals.size++M)) vs' (by show _<=(rP P.globals.size++M).length;rw[gH];omega) (λi hi=>hi) hlen (λj t v d ht hv hd=>by
  obtain⟨v0,e,qw⟩:=aaL (ts:=ts) h1 j v hv;exact aaK rfl (h2 j t v d ht hv hd) qw (hok j t v0 ht e))
 have st:St [] (He (rP P.globals.size++M)) [] F (He (rP P.globals.size++M)):=⟨⟨bQ _,λ_ _ _=>rfl,λ_ _=>rfl⟩,Wd.Le.refl _,λi _ hz=>.inl hz,⟨[],rfl,tZ,λi hi=>by cases hi⟩,hF⟩
 refine .qy _ (hfn' [] (He (rP P.globals.size++M)) st) ?_;rintro r pm h' ⟨rfl,w',y,rfl,s,rfl,_⟩;exact⟨rfl,rfl,⟨s.agree.next,λi hi=>s.agree.get i hi (by simp),λhl=>s.agree.low hl (by simp)⟩⟩
end
def H7(n:Nat):aF:=⟨λw=>n<=w.h.next,λa h=>mh h a.next⟩
theorem abK{f:FuncId}{v:Value}{n:Nat}(hs:∀h:IH,n<=h.next->CALL P ⟨.func f,[],[],none⟩ h (λr pm h'=>pm=none/\r=.ok v/\h'=h)):cK P f [] [H7 n] v:=λB w s=>
 .qy _ (hs w.h (s.facts (H7 n) (bI.2 rfl))) (by rintro r pm h' ⟨rfl,rfl,rfl⟩;exact⟨rfl,w,(),rfl,⟨s.agree,s.le,s.fI,s.own,λf h=>by cases h⟩,rfl,trivial⟩)
end Go.Ideal
namespace Go.Ideal
variable {P:Program}
def L8:Value->Bool
 | .tuple ⟨c::cs⟩=>bR c&&cs.all bR
 | .tuple _=>false
 |v=>bR v
theorem aV.Sn{β:aB}:∀{l:List Value},l.all bR=true->aV β l l
 |[],_=>.nil
 |v::l,h=>by
  rw[Ct,gJ]at h;exact .cons (VR.free h.1) (aV.Sn h.2)
theorem aV.L9{β:aB}:∀{l l':List Value},aV β l l'->l.all bR=true->l'=l
 |_,_,.nil,_=>rfl
 |_,_,.cons h1 h2,h=>by
  rw[Ct,gJ]at h;rw[h1.nY h.1,aV.L9 h2 h.2]
theorem VR.abL{β:aB}{v:Value}(h:L8 v=true):VR β v v:=by
 unfold L8 at h;split at h
 ·rename_i c cs;exact .tuple (aV.Sn (by rw[Ct];exact h))
 ·cases h
 ·exact VR.free h
