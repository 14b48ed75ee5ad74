/-
  The ideal machine, 72: conversions between integers, shifts of unsigned ones; arrays of numbers as keys.
-/
import Derived.Test.YtoohgkkmdnbnfaaGreatDoorIdealNB
set_option linter.all false
namespace Go.Ideal
variable {P:Program}
theorem Ka{ρ:Operand->Value}{src dst:TypeId}{x:Operand}{kk k:IntKind}{n m:Int}{ds:TypeDesc}(hs:P.underlying src=some ds)(hd:P.underlying dst=some (.int k))(hx:ρ x=.int kk n)(hw:k.wrap n=m):Pu P ρ (.conv src dst x) (.int k m):=λh=>by
 have h1:dR P (convert src dst (.int kk n))=some (.int k m):=by
  unfold convert;rw[gJ,pV hs];simp only[iE];rw[gJ,pV hd];simp only[iE];rw[<- hw];rfl
 simp only[aA.run,hx,jQ,h1];rfl
theorem Zy{a:Nat}(h:a<18446744073709551616):IntKind.u64.wrap (a:Int)=a:=by
 show(let m:=(a:Int)%(2^64:Int);if false&&m>=(2^63:Int)then m - (2^64:Int)else m)=_;simp only[Bool.false_and,sP,if_false];rw[Int.emod_eq_of_lt (by omega) (by simpa using(by omega:(a:Int)<18446744073709551616))]
theorem Zz{ρ:Operand->Value}{x y:Operand}{t:TypeId}{a b:Nat}(hx:ρ x=.int .u64 (a:Int))(hy:ρ y=.int .u64 (b:Int))(hb:b<64):Pu P ρ (.bin .shr t x y) (.int .u64 ((a>>>b:Nat):Int)):=λh=>by
 have hv:dR P (binOp .shr t (.int .u64 (a:Int)) (.int .u64 (b:Int)))=some (.int .u64 ((a>>>b:Nat):Int)):=by
  show dR P (Op.shift .shr .u64 a .u64 b)=_;unfold Op.shift;rw[if_neg (by omega)];show some (Value.int .u64 ((a:Int).fdiv (2^(min (b:Int).toNat 64))))=_;rw[show min (b:Int).toNat 64=b by simp;omega,Nat.shiftRight_eq_div_pow];congr 2;rw[show((2:Int)^b)=((2^b:Nat):Int)by simp,Int.fdiv_eq_ediv_of_nonneg _ (Int.natCast_nonneg _)];simp
 have h1:jQ P (do eqGuard .shr t x y (.int .u64 (a:Int)) (.int .u64 (b:Int));binOp .shr t (.int .u64 (a:Int)) (.int .u64 (b:Int)))=some (.int .u64 ((a>>>b:Nat):Int)):=by
  unfold jQ;rw[gJ,Ac (by intro c e;cases e) (by intro e;cases e)];simp only[iE,hv];rfl
 have h2:kI P .shr t x y (.int .u64 (a:Int)) (.int .u64 (b:Int))=some (.int .u64 ((a>>>b:Nat):Int)):=by
  unfold kI;have:(match rM .u64 .u64 with|true=>nK .shr .u64 (a:Int) (b:Int)|false=>none)=none:=rfl;simp only[rM,bH,EB,cond];exact h1
 simp only[aA.run,hx,hy,h2]
theorem ZA{α:Type}[DecidableEq α]{aV:α->Value}{kt:TypeId}{d:TypeDesc}(hu:P.underlying kt=some d)(hn:∀a b,Instr.sameNow d (aV a) (aV b)=none)(he:∀a b,dR P (Op.equal kt (aV a) (aV b))=some (decide (a=b)))(a:α)(ai:List (α×Value))(es:List MapEntry)(h:nG aV ai es):qA P kt (aV a) es=some (nE a ai 0):=by
 have ZB:∀(ai:List (α×Value)) (es:List MapEntry) (i:Nat),nG aV ai es->dR P (Instr.findAsking kt (aV a) es i)=some (nE a ai i):=by
  intro ai;induction ai with
  |nil=>
   intro es i h;cases es with
   |nil=>rfl
   |cons e es=>cases h
  |cons p ai ih=>
   intro es i h;obtain⟨e,es',rfl,h1,h2,h3⟩:=JY h;unfold Instr.findAsking;rw[gJ,h1,he];simp only[iE];unfold nE;by_cases hab:a=p.1
   ·rw[eB hab,if_pos hab,h2];rfl
   ·rw[aR hab,if_neg hab];exact ih es' (i+1) h3
 unfold qA Instr.findKey;rw[gJ,pV hu];simp only[iE];cases ai with
 |nil=>
  cases es with
  |nil=>rfl
  |cons e es=>cases h
 |cons p ai=>
  have h':=h;obtain⟨e,es',rfl,h1,h2,h3⟩:=JY h;have:Instr.findNow d (aV a) (e::es') 0=none:=by
   show(match Instr.sameNow d (aV a) e.key with
   |some true=>some (some (0,e.val))
   |some false=>Instr.findNow d (aV a) es' 1
   |none=>none)=_
   rw[h1,hn]
  rw[this];exact ZB _ _ _ h'
abbrev yR:Int×Int->Value:=λp=>.agg ⟨[.int .i64 p.1,.int .i64 p.2]⟩
theorem ZC{kt e:TypeId}(hu:P.underlying kt=some (.array 2 e))(he:P.underlying e=some (.int .i64))(hs:P.info? e|>.map (·.size)|>(·=some 1))(hc:∀a b:Int,pF P kt (.agg ⟨[.int .i64 a,.int .i64 b]⟩)=true):p9 P kt yR where
 Dz a:=hc a.1 a.2
 find a ai es h:=ZA hu (λa b=>rfl) (λa b=>by
  have:=P9 (d:=9998) (xs:=[a.1,a.2]) (ys:=[b.1,b.2]) hu he hs rfl rfl;rw[show decide (a=b)=decide ([a.1,a.2]=[b.1,b.2])from mG.2 ⟨λh=>by rw[h],λh=>by
   injection h with h1 h2;injection h2 with h2;exact Prod.ext h1 h2⟩]
  exact this) a ai es h
 same a:=by
  show((⟨[Value.int .i64 a.1,.int .i64 a.2]⟩:Array Value).size==(⟨[Value.int .i64 a.1,.int .i64 a.2]⟩:Array Value).size&&(List.zip [Value.int .i64 a.1,.int .i64 a.2] [Value.int .i64 a.1,.int .i64 a.2]).all λ(x,y)=>Instr.sameBits 9999 x y)=true;simp[Instr.sameBits]
end Go.Ideal
namespace Go.Ideal
section
variable {P:Program}
variable {ds:List Tmp} {rest:List bO} {n:Nat} {l:List (Nat×Value)} {D:List Deferred} {pm:Option FrameMode} {ro:Option Nat} {h:IH} {K:KO} {d:Nat} {g:Option (Tmp×Bool)}
theorem Kb{op:aA}{v:Value}{h':IH}{re:List gI}(hn:Nat.blt d n=true)(hg:bS l g=true)(hr:op.run P (ev l) h=some (v,h'))
 (hsm:∀q∈re,∃u h2,q.op.run P (ev ((d,v)::l)) h'=some (u,h2)/\∀d',q.dst=some d'->lk ((d,v)::l) d'=u)
 (next:aD P ds rest (act n ((d,v)::l) D pm ro) h' K):aD P ds (⟨⟨some d,g,op⟩,re⟩::rest) (act n l D pm ro) h K:=
 .jY (tH hg) v h' (by rw[lS];exact hr) (λq hq _=>by
  obtain⟨u,h2,e1,e2⟩:=hsm q hq;rw[nO hn];exact⟨u,h2,by rw[lS];exact e1,λd' hd=>by rw[<- e2 d' hd];exact sw _ _⟩) (by rw[nO hn];exact next)
theorem Qe{re:List gI}{e:TypeId}{size bytes b o m k:Nat}{f:Option Nat}{s x:Operand}{old xs:List Value}(hn:Nat.blt d n=true)(hg:bS l g=true)
 (hs:ev l s=.slice (some ⟨b,o,f⟩) m m) (hx:lZ (ev l x)=some (k+1)) (hxs:kW size (k+1) (ev l x) h=some xs) (hold:h.gG b o (m*size)=some old)
 (hf:f=some 0\/f=some size) (hm:(m+(k+1))*bytes<=1073741824/\(m+(k+1))*size<=1073741824/\m+(k+1)<=1073741824)
 (hsm:∀h',yz h h' b (.cells (old++xs))->∀q∈re,∃u h2,q.op.run P (ev ((d,.slice (some ⟨h.next,0,some size⟩) (m+(k+1)) (m+(k+1)))::l)) h'=some (u,h2)/\∀d',q.dst=some d'->lk ((d,.slice (some ⟨h.next,0,some size⟩) (m+(k+1)) (m+(k+1)))::l) d'=u)
 (next:∀h',yz h h' b (.cells (old++xs))->aD P ds rest (act n ((d,.slice (some ⟨h.next,0,some size⟩) (m+(k+1)) (m+(k+1)))::l) D pm ro) h' K):
 aD P ds (⟨⟨some d,g,.append e size bytes s x⟩,re⟩::rest) (act n l D pm ro) h K:=by
 have hle:∀{a b:Nat},a<=b->Nat.ble a b=true:=λh=>by rw[ou];exact h
 have hlt:Nat.ble (m+(k+1)) m=false:=by
  cases hb:Nat.ble (m+(k+1)) m with
  |false=>rfl
  |true=>have:=jD hb;omega
 have hc:(Nat.ble (Nat.mul (m+(k+1)) bytes) small&&Nat.ble (Nat.mul (m+(k+1)) size) small&&Nat.ble (m+(k+1)) small)=true:=by
  rw[hle (show Nat.mul (m+(k+1)) bytes<=small from hm.1),hle (show Nat.mul (m+(k+1)) size<=small from hm.2.1),hle (show m+(k+1)<=small from hm.2.2)];rfl
 have hrun:∃h',(aA.append e size bytes s x).run P (ev l) h=some (.slice (some ⟨h.next,0,some size⟩) (m+(k+1)) (m+(k+1)),h')/\yz h h' b (.cells (old++xs)):=by
  have yA:uy size (k+1) (ev l x) h=some xs:=hxs;simp only[aA.run,hx,yA,hs,pE];have e1:kW size m (.slice (some ⟨b,o,f⟩) m m) h=some old:=hold;show∃h',(cond (Nat.ble (Nat.mul (m+(k+1)) bytes) small&&Nat.ble (Nat.mul (m+(k+1)) size) small&&Nat.ble (m+(k+1)) small) _ _)=_/\_;rw[hc];show∃h',(cond (Nat.ble (m+(k+1)) m) _ _)=_/\_;rw[hlt];simp only[cond,e1];rcases hf with rfl|rfl
  ·refine⟨_,rfl,?_⟩;exact⟨rfl,λi hi _=>by rw[IH.iJ,if_neg (by omega)],⟨tZ _,by rw[IH.iJ,if_pos rfl,iT]⟩,λ_=>rfl⟩
  ·cases size with
   |zero=>
    refine⟨_,rfl,?_⟩;exact⟨rfl,λi hi _=>by rw[IH.iJ,if_neg (by omega)],⟨tZ _,by rw[IH.iJ,if_pos rfl,iT]⟩,λ_=>rfl⟩
   |succ j=>
    have hj:Nat.beq (Nat.succ j) (j+1)=true:=zq _;refine⟨(h.kill b).new (.cells (old++xs)),?_,?_⟩
    ·show cond (Nat.beq (Nat.succ j) (j+1)) _ _=_;rw[hj,iT];rfl
    ·exact⟨rfl,λi hi hb=>by rw[IH.iJ,if_neg (by show i≠h.next;omega),IH.rT,if_neg hb],⟨tZ _,by rw[IH.iJ];exact if_pos rfl⟩,λhl=>by rw[IH.Ie,IH.x8];omega⟩
 obtain⟨h',hr,hM⟩:=hrun;exact Kb hn hg hr (hsm h' hM) (next h' hM)
theorem ZE{re:List gI}{e:TypeId}{size bytes k c:Nat}{s x:Operand}{xs:List Value}(hn:Nat.blt d n=true)(hg:bS l g=true)
 (hs:ev l s=.slice none 0 0) (hx:lZ (ev l x)=some (k+1)) (hxs:kW size (k+1) (ev l x) h=some xs)
 (hm:(k+1)*bytes<=1073741824/\(k+1)*size<=1073741824/\(k+1)<=1073741824)
 (hsm:∀h',Agree h h'->At h' h.next (.cells xs)->h'.next=h.next+1->∀q∈re,∃u h2,q.op.run P (ev ((d,.slice (some ⟨h.next,0,some size⟩) (k+1) (k+1))::l)) h'=some (u,h2)/\∀d',q.dst=some d'->lk ((d,.slice (some ⟨h.next,0,some size⟩) (k+1) (k+1))::l) d'=u)
 (next:∀h',Agree h h'->At h' h.next (.cells xs)->h'.next=h.next+1->aD P ds rest (act n ((d,.slice (some ⟨h.next,0,some size⟩) (k+1) (k+1))::l) D pm ro) h' K):
 aD P ds (⟨⟨some d,g,.append e size bytes s x⟩,re⟩::rest) (act n l D pm ro) h K:=by
 have hle:∀{a b:Nat},a<=b->Nat.ble a b=true:=λh=>by rw[ou];exact h
 have e0:Nat.add 0 (k+1)=k+1:=eH _;refine Kb hn hg (h':=h.new (.cells xs)) ?_ (hsm _ (Ju _ _) (Jv _ _) rfl) (next _ (Ju _ _) (Jv _ _) rfl);have yA:uy size (k+1) (ev l x) h=some xs:=hxs;simp only[aA.run,hx,yA,hs,pE,e0];rw[hle (show Nat.mul (k+1) bytes<=small from hm.1),hle (show Nat.mul (k+1) size<=small from hm.2.1),hle (show k+1<=small from hm.2.2)];have e1:kW size 0 (.slice none 0 0) h=some []:=by
  show(match (0:Nat)with|0=>some ([]:List Value)|_=>none)=_;rfl
 have e2:Nat.ble (k+1) 0=false:=rfl;simp only[EB,cond_true,e2,cond_false,e1,iT,dH]
end
section
variable {P:Program}
variable {ρ:Operand->Value}
variable {B:List Nat} {w0:Wd} {kl kl':List OA} {F:List aJ} {a:aU} {K:KO}
variable {y:dm} {i j m0:Nat} {I:Nat->aU->IH->Prop} {ch:List PanicEntry}
variable {B:List Nat} {w0:Wd} {kl kl':List OA} {F:List aJ} {K:KO} {ds:List Tmp} {rest:List bO} {n:Nat} {l:List (Nat×Value)} {D:List Deferred} {pm:Option FrameMode} {ro:Option Nat} {d:Nat} {g:Option (Tmp×Bool)}
theorem ZF{re:List gI}{α:Type}{E:Enc α}{e:TypeId}{size bytes b':Nat}{s x:Operand}{v:Value}{xs:List α}{a:α}{y:E.Y}{cs:List Value}{k1 k2:List OA}(hn:Nat.blt d n=true)(hg:bS l g=true)
 (hs:ev l s=v) (hx:ev l x=.slice (some ⟨b',0,some 0⟩) 1 1) (hk:ay (ap E v xs) kl k1) (hc:ay (pt b' (.cells cs)) k1 k2) (hp:cs=E.pat a y) (hF:Sub (E.fs a y) F) (hz:E.n=size)
 (hm:(xs.length+1)*bytes<=1073741824/\(xs.length+1)*size<=1073741824/\xs.length+1<=1073741824)
 (hsm:∀ad,Same P re (ev ((d,.slice ad (xs.length+1) (xs.length+1))::l)) ((d,.slice ad (xs.length+1) (xs.length+1))::l) B w0 (ap E (.slice ad (xs.length+1) (xs.length+1)) (xs++[a])::k2) F)
 (r:∀ad,R (λh=>aD P ds rest (act n ((d,.slice ad (xs.length+1) (xs.length+1))::l) D pm ro) h K) B w0 (ap E (.slice ad (xs.length+1) (xs.length+1)) (xs++[a])::k2) F):
 R (λh=>aD P ds (⟨⟨some d,g,.append e size bytes s x⟩,re⟩::rest) (act n l D pm ro) h K) B w0 kl F:=by
 intro w st;subst hp hz;have hlen:=E.len a y;have st2:St B w0 (ap E v xs::pt b' (.cells (E.pat a y))::k2) F w:=st.jB (.cons hk (.cons hc .nil));have hat:At w.h b' (.cells (E.pat a y)):=st2.at_ (.there .here);have kZ:St B w0 (ap E v xs::k2) F w:=(st2.fK (.there .here)).tail;have hfs:∀f∈E.fs a y,f.p w:=λf hf=>st.facts f (hF.mem f hf);have hread:w.h.gG b' 0 (1*E.n)=some (E.pat a y):=by
  rw[hat.c.gG,l6,l7,xM,uj,if_pos (by omega),<- hlen,bK]
 have hx1:lZ (ev l x)=some (0+1):=by rw[hx];rfl
 have hx2:kW E.n (0+1) (ev l x) w.h=some (E.pat a y):=by rw[hx];exact hread
 -- what lies there afterwards
 have put:∀(w':Wd) (c:Nat) (f:Nat) (cells:List Value),cells.length=xs.length*E.n->(∀(k:Nat) z,xs[k]? =some z->∃y,(∀(j:Nat) u,(E.pat z y)[j]? =some u->cells[k*E.n+j]? =some u)/\∀f∈E.fs z y,f.p w')->(∀f∈E.fs a y,f.p w')->
  (f=0\/f=E.n)->∀S,(pt c (.cells (cells++E.pat a y))).p w' S->(ap E (.slice (some ⟨c,0,some f⟩) (xs.length+1) (xs.length+1)) (xs++[a])).p w' S:=by
  intro w' c f cells h1 h2 h3 h4 S hp;refine .inr ⟨c,0,f,_,by rw[gB];rfl,h4,hp.1,hp.2,by rw[gB,gB,h1,hlen,uk,ow,xM,eH],λk z hk=>?_⟩;by_cases hlt:k<xs.length
  ·rw[kU hlt]at hk;obtain⟨y',q1,q2⟩:=h2 k z hk;refine⟨y',λj u hj=>?_,q2⟩;rw[eH];have:=q1 j u hj;rw[kU (bT.1 this).1];exact this
  ·rw[mZ (by omega)]at hk;have hk0:k=xs.length:=by
    have:=(bT.1 hk).1;simp at this;omega
   subst hk0;simp at hk;subst hk;refine⟨y,λj u hj=>?_,h3⟩;rw[eH,mZ (by omega),h1,Hq];exact hj
 obtain⟨S,⟨S1,S2,q,q2,e1⟩,hnd,hown⟩:=kZ.own;rcases q with⟨rfl,rfl,rfl⟩|⟨b,o,f,cells,rfl,hf,rfl,hb,hcl,hel⟩
 ·have key:∀h',Agree w.h h'->At h' w.h.next (.cells (E.pat a y))->h'.next=w.h.next+1->∃w':Wd,w'.h=h'/\St B w0 (ap E (.slice (some ⟨w.h.next,0,some E.n⟩) (([]:List α).length+1) (([]:List α).length+1)) ([]++[a])::k2) F w':=λh' ag uQ hnx=>by
   obtain⟨w',rfl,iK⟩:=kZ.tail.fresh ag uQ hnx;refine⟨w',rfl,?_⟩;have hle:∀f∈E.fs a y,f.p w':=λf hf=>iK.facts f (hF.mem f hf);exact iK.wL λS hp=>put w' _ E.n [] (by simp) (λk z hk=>by cases hk) hle (.inr rfl) S hp
  refine ZE (c:=0) hn hg hs hx1 hx2 (by simpa using hm) (λh' ag uQ hnx=>?_) λh' ag uQ hnx=>?_
  ·obtain⟨w',rfl,iK⟩:=key h' ag uQ hnx;exact hsm _ w' iK
  ·obtain⟨w',rfl,iK⟩:=key h' ag uQ hnx;exact r _ w' iK
 ·have wM:St B w0 (pt b (.cells cells)::k2) F w:=⟨kZ.agree,kZ.le,kZ.fM,⟨S,⟨_,S2,⟨rfl,hb⟩,q2,e1⟩,hnd,hown⟩,kZ.facts⟩
  have Dh:At w.h b (.cells cells):=wM.at_ .here;have key:∀h',yz w.h h' b (.cells (cells.drop o++E.pat a y))->∃w':Wd,w'.h=h'/\St B w0 (ap E (.slice (some ⟨w.h.next,0,some E.n⟩) (xs.length+1) (xs.length+1)) (xs++[a])::k2) F w':=λh' mv=>by
   obtain⟨w',rfl,iK,wN⟩:=wM.move mv;refine⟨w',rfl,iK.wL λS hp=>?_⟩;have hle:∀f∈E.fs a y,f.p w':=λf hf=>iK.facts f (hF.mem f hf);refine put w' _ E.n (cells.drop o) (by rw[lX];omega) (λk z hk=>?_) hle (.inr rfl) S hp;obtain⟨y',u1,u2⟩:=hel k z hk;exact⟨y',λj u hj=>by rw[mY,<- ng];exact u1 j u hj,λf hf=>f.mono wN (u2 f hf)⟩
  refine Qe (old:=cells.drop o) (xs:=E.pat a y) hn hg hs hx1 hx2 ?_ (hf.elim (λe=>.inl (by rw[e])) λe=>.inr (by rw[e])) hm (λh' mv=>?_) λh' mv=>?_
  ·have hdl:(cells.drop o).length=xs.length*E.n:=by rw[lX];omega
   rw[Dh.c.gG,l6,l7,if_pos (by omega),<- hdl,bK]
  ·obtain⟨w',rfl,iK⟩:=key h' mv;exact hsm _ w' iK
  ·obtain⟨w',rfl,iK⟩:=key h' mv;exact r _ w' iK
end
section
variable {P:Program} {B:List Nat} {w0:Wd} {kl kl' bA:List OA} {F:List aJ} {K:KO} {n:Nat} {l:List (Nat×Value)} {D:List Deferred} {pm:Option FrameMode} {ro:Option Nat}
theorem Qf{re:List gI}{α:Type}(E:Enc α){ds:List Tmp}{rest:List bO}{d:Nat}{g:Option (Tmp×Bool)}{e:TypeId}{size bytes b':Nat}{s x:Operand}{v:Value}{xs:List α}(a:α)(y:E.Y){cs:List Value}{k1 k2:List OA}
 (hm:(xs.length+1)*bytes<=1073741824/\(xs.length+1)*size<=1073741824/\xs.length+1<=1073741824)
 (next:∀ad,R (λh=>aD P ds rest (act n ((d,.slice ad (xs.length+1) (xs.length+1))::l) D pm ro) h K) B w0 (ap E (.slice ad (xs.length+1) (xs.length+1)) (xs++[a])::k2) F)
 (hn:Nat.blt d n=true:=by rfl) (hg:bS l g=true:=by rfl)
 (hs:ev l s=v:=by conv=>lhs;whnf) (hx:ev l x=.slice (some ⟨b',0,some 0⟩) 1 1:=by rfl) (hk:ay (ap E v xs) kl k1:=by exact gu) (hc:ay (pt b' (.cells cs)) k1 k2:=by exact gu) (hp:cs=E.pat a y:=by rfl) (hF:Sub (E.fs a y) F:=by exact mQ) (hz:E.n=size:=by rfl)
 (hsm:∀ad,Same P re (ev ((d,.slice ad (xs.length+1) (xs.length+1))::l)) ((d,.slice ad (xs.length+1) (xs.length+1))::l) B w0 (ap E (.slice ad (xs.length+1) (xs.length+1)) (xs++[a])::k2) F:=by intro _;repeat (first|exact yH|refine yI rfl (by repeat (first|with_reducible exact ay.here|with_reducible apply ay.there|with_reducible apply ay.app)) (by first|exact rfl|(conv=>lhs;whnf)) rfl ?_|refine Ad rfl (by(repeat (first|with_reducible exact dx .. |with_reducible apply dA));first|done|fail) (by first|exact rfl|(conv=>lhs;whnf)) rfl ?_|refine Ae rfl (by(repeat (first|with_reducible exact dx .. |with_reducible apply dA));first|done|fail) (by first|exact rfl|(conv=>lhs;whnf)) rfl ?_|refine Af rfl (by repeat (first|with_reducible exact ay.here|with_reducible apply ay.there|with_reducible apply ay.app)) (by first|exact rfl|(conv=>lhs;whnf)) rfl ?_|refine Ag rfl (by(repeat (first|with_reducible exact dx .. |with_reducible apply dA));first|done|fail) (by first|exact rfl|(conv=>lhs;whnf)) rfl ?_|refine Ah rfl (by(repeat (first|with_reducible exact dx .. |with_reducible apply dA));first|done|fail) (by first|exact rfl|(conv=>lhs;whnf)) rfl ?_|refine JO (by first|((with_reducible apply CB);(focus ((conv=>lhs;whnf);(first|done|fail))))|((with_reducible apply CE);(focus ((conv=>lhs;whnf);(first|done|fail))))|((with_reducible apply CK);(focus exact rfl))|((with_reducible apply CO);(focus exact rfl);(focus exact rfl))|((with_reducible apply CP);(focus exact rfl);(focus exact rfl))|((with_reducible apply CQ);(focus exact rfl);(focus exact rfl))|((with_reducible apply CR);(focus exact rfl);(focus exact rfl))|((with_reducible apply CS);(focus exact rfl);(focus exact rfl))|((with_reducible apply CU);(focus exact rfl);(focus exact rfl))|((with_reducible apply CJ);(focus exact rfl))|((with_reducible apply CF);(focus exact rfl);(focus ((conv=>lhs;whnf);(first|done|fail))))|((with_reducible apply CG);(focus exact rfl);(focus ((conv=>lhs;whnf);(first|done|fail))))|((with_reducible apply CY);(focus exact rfl);(focus ((conv=>lhs;whnf);(first|done|fail))))|((with_reducible apply CZ);(focus exact rfl))|((with_reducible apply C8);(focus exact rfl);(focus ((conv=>lhs;whnf);(first|done|fail))))|((with_reducible apply C9);(focus exact rfl);(focus ((conv=>lhs;whnf);(first|done|fail))))|((with_reducible apply Da);(focus ((conv=>lhs;whnf);(first|done|fail))))|((with_reducible apply Db);(focus exact rfl))|((with_reducible apply Dc);(focus exact rfl))|((with_reducible apply De);(focus exact rfl))|with_reducible exact CL|((with_reducible apply Df);(focus exact rfl);(focus exact rfl);(focus exact rfl))|((with_reducible apply Dp);(focus exact rfl);(focus exact rfl);(focus ((omega);(first|done|fail))))|((with_reducible apply Ab);(focus exact rfl);(focus exact rfl);(focus ((omega);(first|done|fail)));(focus ((omega);(first|done|fail))))|((with_reducible apply Dg);(focus exact rfl);(focus exact rfl);(focus ((omega);(first|done|fail)));(focus ((omega);(first|done|fail))))|((with_reducible apply yG);(focus exact rfl);(focus exact rfl);(focus ((omega);(first|done|fail)));(focus ((omega);(first|done|fail))))|((with_reducible apply CW);(focus exact rfl);(focus exact rfl);(focus ((omega);(first|done|fail)));(focus ((omega);(first|done|fail))))|((with_reducible apply Di);(focus exact rfl);(focus exact rfl);(focus ((first|assumption|kernel_rfl);(first|done|fail))))|((with_reducible apply Dj);(focus exact rfl);(focus exact rfl);(focus ((first|assumption|kernel_rfl);(first|done|fail))))|((with_reducible apply Dk);(focus exact rfl);(focus exact rfl))|((with_reducible apply Dl);(focus exact rfl);(focus exact rfl))|((with_reducible apply Dn);(focus exact rfl);(focus exact rfl);(focus ((omega);(first|done|fail)));(focus ((omega);(first|done|fail))))) rfl ?_)):
 R (λh=>aD P ds (⟨⟨some d,g,.append e size bytes s x⟩,re⟩::rest) (act n l D pm ro) h K) B w0 kl F:=
 ZF hn hg hs hx hk hc hp hF hz hm hsm next
end
end Go.Ideal
namespace Go.Ideal
variable {P:Program}
section
variable {α κ:Type} [DecidableEq κ] {aV:κ->Value} {E:Enc α}
def mg(E:Enc α):List (κ×Value)->List (κ×List α)->List OA
 |p::ai,q::m=>ap E p.2 q.2::mg E ai m
 |_,_=>[]
def qV(E:Enc α)(n:κ):List (κ×Value)->List (κ×List α)->List OA
 |p::ai,q::m=>if n=p.1 then mg E ai m else ap E p.2 q.2::qV E n ai m
 |_,_=>[]
def DR(aV:κ->Value)(E:Enc α)(b:Nat)(m:List (κ×List α)):OA:=
 ⟨λw S=>∃ai:List (κ×Value),ai.map (·.1)=m.map (·.1)/\eZ w (gy aV b ai::mg E ai m) S,λa h ⟨ai,h1,h2⟩=>⟨ai,h1,eZ.loc a h h2⟩⟩
def Qg(E:Enc α)(n:κ)(ai:List (κ×Value))(m:List (κ×List α)):OA:=⟨λw S=>eZ w (qV E n ai m) S,λa h hp=>eZ.loc a h hp⟩
def Qh(E:Enc α)(ai:List (κ×Value))(m:List (κ×List α)):OA:=⟨λw S=>eZ w (mg E ai m) S,λa h hp=>eZ.loc a h hp⟩
def Qi(E:Enc α)(ai:List (κ×Value))(m:List (κ×List α)):aJ:=
 ⟨λw=>∀n v xs,dN n ai=some v->dN n m=some xs->(ah E v xs).p w,λa h n v xs h1 h2=>(ah E v xs).mono a (h n v xs h1 h2)⟩
theorem Kc{β γ:Type}{n:κ}:∀{ai:List (κ×β)} {m:List (κ×γ)},ai.map (·.1)=m.map (·.1)->(dN n ai=none↔dN n m=none)
 |[],[],_=>⟨λ_=>rfl,λ_=>rfl⟩
 |(a,u)::ai,(b,x)::m,h=>by
  rw[gY,gY]at h;injection h with h1 h2;have h1:a=b:=h1;subst h1;unfold dN;by_cases e:n=a
  ·rw[if_pos e,if_pos e];exact⟨λh=>(nomatch h),λh=>(nomatch h)⟩
  ·rw[if_neg e,if_neg e];exact Kc h2
 |[],_::_,h=>by cases h
 |_::_,[],h=>by cases h
theorem Qj{n:κ}:∀{ai:List (κ×Value)} {m:List (κ×List α)},dN n ai=none->qV E n ai m=mg E ai m
 |[],_,_=>by unfold qV mg;rfl
 |_::_,[],_=>by unfold qV mg;rfl
 |(a,u)::ai,(b,x)::m,h=>by
  unfold dN at h;by_cases e:n=a
  ·rw[if_pos e]at h;cases h
  ·rw[if_neg e]at h;unfold qV mg;rw[if_neg e,Qj h]
theorem Ke{n:κ}{v:Value}{xs:List α}:∀{ai:List (κ×Value)} {m:List (κ×List α)},ai.map (·.1)=m.map (·.1)->dN n ai=some v->dN n m=some xs->ay (ap E v xs) (mg E ai m) (qV E n ai m)
 |[],_,_,h,_=>by cases h
 |_::_,[],h,_,_=>by cases h
 |(a,u)::ai,(b,x)::m,h,h1,h2=>by
  rw[gY,gY]at h;injection h with e1 e2;have e1:a=b:=e1;subst e1;unfold dN at h1 h2;unfold mg qV;by_cases e:n=a
  ·rw[if_pos e]at h1 h2⊢;cases h1;cases h2;exact .here
  ·rw[if_neg e]at h1 h2⊢;exact .there (Ke e2 h1 h2)
theorem Qk{n:κ}{v:Value}{xs:List α}:∀{ai:List (κ×Value)} {m:List (κ×List α)},ai.map (·.1)=m.map (·.1)->ay (ap E v xs) (mg E (upd n v ai) (upd n xs m)) (qV E n ai m)
 |[],[],_=>by unfold upd qV mg mg;exact .here
 |[],_::_,h=>by cases h
 |_::_,[],h=>by cases h
 |(a,u)::ai,(b,x)::m,h=>by
  rw[gY,gY]at h;injection h with e1 e2;have e1:a=b:=e1;subst e1;unfold upd qV;by_cases e:n=a
  ·rw[if_pos e,if_pos e,if_pos e];rw[show mg E ((n,v)::ai) ((n,xs)::m)=ap E v xs::mg E ai m from rfl];exact .here
  ·rw[if_neg e,if_neg e,if_neg e];rw[show mg E ((a,u)::upd n v ai) ((a,x)::upd n xs m)=ap E u x::mg E (upd n v ai) (upd n xs m)from rfl];exact .there (Qk e2)
theorem DT{β γ:Type}{n:κ}{v:β}{x:γ}:∀{ai:List (κ×β)} {m:List (κ×γ)},ai.map (·.1)=m.map (·.1)->(upd n v ai).map (·.1)=(upd n x m).map (·.1)
 |[],[],_=>rfl
 |[],_::_,h=>by cases h
 |_::_,[],h=>by cases h
 |(a,u)::ai,(b,y)::m,h=>by
  rw[gY,gY]at h;injection h with e1 e2;have e1:a=b:=e1;subst e1;unfold upd;by_cases e:n=a
  ·rw[if_pos e,if_pos e,gY,gY,e2]
  ·rw[if_neg e,if_neg e,gY,gY,DT e2]
variable {B:List Nat} {w0:Wd} {kl kl' bA k1 k2:List OA} {F:List aJ} {Q:IH->Prop} {b:Nat} {m:List (κ×List α)}
theorem ZG(E:Enc α)(h:R Q B w0 (DR aV E b ([]:List (κ×List α))::kl') F)(hk:ay (gy aV b []) kl kl':=by exact gu):R Q B w0 kl F:=
 .perm (λw S hS=>by
  obtain⟨S',⟨T1,T2,u1,u2,e⟩,hp⟩:=hS.fK hk;exact⟨S',⟨T1,T2,⟨[],rfl,T1,[],u1,rfl,by simp⟩,u2,e⟩,hp⟩) h
theorem ZH(n:κ)(hk:ay (DR aV E b m) kl kl':=by exact gu)
 (h:∀(ai:List (κ×Value)) (v:Value),ai.map (·.1)=m.map (·.1)->jU false (.slice none 0 0) n ai=v->R Q B w0 (gy aV b ai::ap E v ((dN n m).getD [])::Qg E n ai m::kl') F):R Q B w0 kl F:=λw s=>by
 obtain⟨S,⟨S1,S2,⟨ai,hkeys,T1,T2,u1,u2,e1⟩,q2,e⟩,hnd,hall⟩:=(s.fK hk).own;have key:∃T',eZ w (ap E (jU false (.slice none 0 0) n ai) ((dN n m).getD [])::qV E n ai m) T'/\T2.Perm T':=by
  cases hl:dN n ai with
  |none=>
   have hm:=(Kc (n:=n) hkeys).1 hl;have e1:jU false (.slice none 0 0) n ai=.slice none 0 0:=by unfold jU;rw[hl];rfl
   rw[e1,hm,Qj hl];exact⟨T2,⟨[],T2,.inl ⟨rfl,rfl,rfl⟩,u2,rfl⟩,.refl _⟩
  |some v=>
   cases hm:dN n m with
   |none=>rw[(Kc (n:=n) hkeys).2 hm]at hl;cases hl
   |some xs=>
    have e1:jU false (.slice none 0 0) n ai=v:=by unfold jU;rw[hl];rfl
    rw[e1];exact u2.fK (Ke hkeys hl hm)
 obtain⟨T',⟨T3,T4,u3,u4,e3⟩,hp⟩:=key;subst e e1 e3;have hperm:((T1++T2)++S2).Perm (T1++(T3++(T4++S2))):=by
  rw[fE];refine List.Perm.append_left T1 ?_;rw[<- fE];exact List.Perm.append_right S2 hp
 exact h ai _ hkeys rfl w ⟨s.agree,s.le,s.fM,⟨_,⟨T1,_,u1,⟨T3,_,u3,⟨T4,S2,u4,q2,rfl⟩,rfl⟩,rfl⟩,hperm.nodup hnd,λi hi=>hall i (hperm.mem_iff.2 hi)⟩,s.facts⟩
theorem ZI(n:κ){ai:List (κ×Value)}{v:Value}{xs:List α}(hkeys:ai.map (·.1)=m.map (·.1))(h:R Q B w0 (DR aV E b (upd n xs m)::bA) F)
 (h1:ay (gy aV b (upd n v ai)) kl k1:=by exact gu) (h2:ay (ap E v xs) k1 k2:=by exact gu) (h3:ay (Qg E n ai m) k2 bA:=by exact gu):R Q B w0 kl F:=
 .perm (λw S hS=>by
  obtain⟨S1,S2,q1,q2,hp⟩:=hS.jB (.cons h1 (.cons h2 (.cons h3 .nil)));obtain⟨T1,U1,u1,⟨T2,U2,u2,⟨T3,U3,u3,u4,e3⟩,e2⟩,e1⟩:=q1;have u4:U3=[]:=u4;subst u4 e3 e2 e1;obtain⟨V,v1,v2⟩:=eZ.JS (Qk (E:=E) (n:=n) (v:=v) (xs:=xs) hkeys) (S:=T2++T3) (w:=w) ⟨T2,T3,u2,u3,rfl⟩;refine⟨(T1++V)++S2,⟨T1++V,S2,⟨upd n v ai,DT hkeys,⟨T1,V,u1,v1,rfl⟩⟩,q2,rfl⟩,hp.trans ?_⟩;rw[gD];exact List.Perm.append_right S2 (List.Perm.append_left T1 v2)) h
theorem ZJ(h:∀ai:List (κ×Value),ai.map (·.1)=m.map (·.1)->R Q B w0 (gy aV b ai::Qh E ai m::kl') F)(hk:ay (DR aV E b m) kl kl':=by exact gu):R Q B w0 kl F:=λw s=>by
 obtain⟨S,⟨S1,S2,⟨ai,hkeys,T1,T2,u1,u2,e1⟩,q2,e⟩,hnd,hall⟩:=(s.fK hk).own;subst e e1;refine h ai hkeys w ⟨s.agree,s.le,s.fM,⟨T1++(T2++S2),⟨T1,_,u1,⟨T2,S2,u2,q2,rfl⟩,rfl⟩,?_,λi hi=>hall i ?_⟩,s.facts⟩
 ·rw[<- fE];exact hnd
 ·rw[fE];exact hi
theorem ZK{ai:List (κ×Value)}(hkeys:ai.map (·.1)=m.map (·.1)):qN (Qh E ai m) [Qi E ai m]:=by
 intro w w' S hS hle hh hz f hf;rw[bG.1 hf];have hS:eZ w (mg E ai m) S:=hS;clear hf;intro n v xs h1 h2;obtain⟨S',⟨T1,T2,u1,_,e⟩,hp⟩:=hS.fK (Ke hkeys h1 h2);subst e;exact gp w w' T1 u1 hle hh (λi hi=>hz i (hp.mem_iff.2 (kw _ hi))) _ (bG.2 rfl)
end
end Go.Ideal
namespace Go.Ideal
variable {P:Program} {B:List Nat} {w0:Wd} {kl kl' bA:List OA} {F:List aJ} {K:KO} {ds:List Tmp} {rest:List bO} {n:Nat} {l:List (Nat×Value)} {D:List Deferred} {pm:Option FrameMode} {ro:Option Nat} {d:Nat} {g:Option (Tmp×Bool)}
theorem F7{α:Type}(E:Enc α){x i:Operand}{v:Value}{xss:List (List α)}(k:Nat)(xs:List α){kk:IntKind}{d2:Nat}{g2:Option (Tmp×Bool)}(hz:xss[k]? =some xs)
 (next:∀b o u,R (λh=>aD P ds rest (act n ((d2,u)::(d,.pointer (some ⟨b,o,none⟩))::l) D pm ro) h K) B w0 kl (ah E u xs::F))
 (hn:Nat.blt d n=true:=by rfl) (hg:bS l g=true:=by rfl) (hn2:Nat.blt d2 n=true:=by rfl) (hg2:∀u,bS ((d,u)::l) g2=true:=by intro _;rfl) (hx:ev l x=v:=by conv=>lhs;whnf) (hi:ev l i=.int kk (k:Int):=by rfl)
 (hk:ay (ap (aj E) v xss) kl kl':=by exact gu):
 R (λh=>aD P ds (⟨⟨some d,g,.kV 1 x i⟩,[]⟩::⟨⟨some d2,g2,.fT (.tmp d)⟩,[]⟩::rest) (act n l D pm ro) h K) B w0 kl F:=by
 intro w s;have s1:=s.fK hk;obtain⟨S,⟨S1,S2,p,p2,e⟩,h2,h3⟩:=s1.own;have hlt:=(bT.1 hz).1;rcases p with⟨h,_⟩|⟨b,o,f,cells,e1,hf,e2,hb,hcl,hel⟩
 ·rw[h]at hz;cases hz
 ·subst e1;obtain⟨y,u1,u2⟩:=hel k xs hz;have hc:cells[o+(k:Int).toNat*1]? =some y:=by
   have:=u1 0 y rfl;simpa[aj]using this
  refine JA hn hg hx hi (by omega) (by omega) ?_;have hbS:b∈S:=by rw[e,e2];simp
  refine Fy hn2 (hg2 _) (by show lk _ d=_;simp[lk]) ⟨(h3 b hbS).2.1,hb⟩ hc (next _ _ y w ⟨s.agree,s.le,s.fM,s.own,λf hf=>?_⟩);rcases dF.1 hf with rfl|hf
  ·exact u2 _ (bG.2 rfl)
  ·exact s.facts f hf
end Go.Ideal
namespace Go.Ideal
variable {P:Program} {B:List Nat} {w0:Wd} {kl kl' bA k1 k2:List OA} {F:List aJ} {Q:IH->Prop}
section
variable {β:Type} (A:Value->β->OA)
def qW(vs:List Value)(xss:List β):List OA:=(vs.zip xss).map λp=>A p.1 p.2
def mh(b:Nat)(xss:List β):OA:=
 ⟨λw S=>∃vs:List Value,vs.length=xss.length/\eZ w (pt b (.cells vs)::qW A vs xss) S,λa h ⟨vs,h1,h2⟩=>⟨vs,h1,eZ.loc a h h2⟩⟩
def Ql(vs:List Value)(xss:List β)(k:Nat):OA:=
 ⟨λw S=>eZ w ((qW A vs xss).eraseIdx k) S,λa h hp=>eZ.loc a h hp⟩
theorem Qm{vs:List Value}{xss:List β}{k:Nat}{v:Value}{xs:β}(hv:vs[k]? =some v)(hx:xss[k]? =some xs):(qW A vs xss)[k]? =some (A v xs):=by
 simp[qW,List.zip,eY,List.getElem?_zipWith,hv,hx]
theorem Qn{b:Nat}{xss:List β}{k:Nat}{xs:β}(hx:xss[k]? =some xs)(hk:ay (mh A b xss) kl kl':=by exact gu)
 (h:∀(vs:List Value) (v:Value),vs.length=xss.length->vs[k]? =some v->R Q B w0 (pt b (.cells vs)::A v xs::Ql A vs xss k::kl') F):R Q B w0 kl F:=λw s=>by
 obtain⟨S,⟨S1,S2,⟨vs,h1,h2⟩,q2,e⟩,hnd,hall⟩:=(s.fK hk).own;subst e;have hlt:=(bT.1 hx).1;have hv:vs[k]? =some (vs[k]'(by omega)):=cK (by omega);refine h vs _ h1 hv w ?_;have hg:(qW A vs xss)[k]? =some (A (vs[k]'(by omega)) xs):=Qm A hv hx;obtain⟨T1,T2,u1,u2,e⟩:=h2;obtain⟨T3,⟨T4,T5,u4,u5,e5⟩,u6⟩:=u2.fK (ay.at hg);subst e5 e;have hperm:((T1++T2)++S2).Perm (T1++(T4++(T5++S2))):=by
  rw[fE];refine List.Perm.append_left T1 ?_;rw[<- fE];exact List.Perm.append_right S2 u6
 exact⟨s.agree,s.le,s.fM,⟨T1++(T4++(T5++S2)),⟨T1,_,u1,⟨T4,_,u4,⟨T5,S2,u5,q2,rfl⟩,rfl⟩,rfl⟩,hperm.nodup hnd,λi hi=>hall i (hperm.mem_iff.2 hi)⟩,s.facts⟩
theorem ZL{vs:List Value}{xss:List β}{k:Nat}{v:Value}{xs:β}:qW A (vs.set k v) (xss.set k xs)=(qW A vs xss).set k (A v xs):=by
 apply jw;intro j;simp only[qW,eY,ul,List.zip,List.getElem?_zipWith];by_cases e:k=j
 ·subst e;by_cases h1:k<vs.length
  ·by_cases h2:k<xss.length
   ·simp[h1,h2];omega
   ·simp[h1,h2];omega
  ·simp[h1];omega
 ·simp[e]
theorem Qo{b:Nat}{xss:List β}{vs:List Value}{k:Nat}{v:Value}{xs:β}(hlen:vs.length=xss.length)(hk:k<xss.length)(h1:ay (pt b (.cells (vs.set k v))) kl k1:=by exact gu)
 (h2:ay (A v xs) k1 k2:=by exact gu) (h3:ay (Ql A vs xss k) k2 bA:=by exact gu) (h:R Q B w0 (mh A b (xss.set k xs)::bA) F):R Q B w0 kl F:=
 .perm (λw S hS=>by
  obtain⟨S1,S2,q1,q2,hp⟩:=hS.jB (.cons h1 (.cons h2 (.cons h3 .nil)));obtain⟨T1,U1,u1,⟨T2,U2,u2,⟨T3,U3,u3,u4,e3⟩,e2⟩,e1⟩:=q1;have u4:U3=[]:=u4;subst u4 e3 e2 e1;have hl:((qW A vs xss).set k (A v xs))[k]? =some (A v xs):=by
   rw[ul,if_pos rfl,if_pos (by simp[qW];omega)]
  obtain⟨V,v1,v2⟩:=eZ.JS (ay.at hl) (S:=T2++T3) (w:=w) ⟨T2,T3,u2,by rw[Pk];exact u3,rfl⟩;refine⟨(T1++V)++S2,⟨T1++V,S2,⟨vs.set k v,by simp[hlen],⟨T1,V,u1,by rw[ZL];exact v1,rfl⟩⟩,q2,rfl⟩,hp.trans ?_⟩;rw[gD];exact List.Perm.append_right S2 (List.Perm.append_left T1 v2)) h
theorem ZM{b m:Nat}{v0:Value}{x0:β}(h0:∀w,(A v0 x0).p w [])(hk:ay (pt b (.cells (List.replicate m v0))) kl kl':=by exact gu)(h:R Q B w0 (mh A b (List.replicate m x0)::kl') F):R Q B w0 kl F:=
 .perm (λw S hS=>by
  obtain⟨S',⟨T1,T2,u1,u2,e⟩,hp⟩:=hS.fK hk;refine⟨S',⟨T1,T2,⟨List.replicate m v0,by simp,⟨T1,[],u1,?_,by simp⟩⟩,u2,e⟩,hp⟩;have:∀m,eZ w (qW A (List.replicate m v0) (List.replicate m x0)) []:=by
   intro m;induction m with
   |zero=>rfl
   |succ m ih=>exact⟨[],[],h0 w,ih,rfl⟩
  exact this m) h
theorem ZN{E:Enc β}{b c:Nat}{xss:List β}(fv:Value->E.Y)(hn:E.n=1)(hpat:∀x v,E.pat x (fv v)=[v])(hA:∀v xs,qN (A v xs) (E.fs xs (fv v)))(hc:xss.length<=c:=by first|exact bI _|omega):qN (mh A b xss) [ah E (.slice (some ⟨b,0,some 0⟩) xss.length c) xss]:=by
 intro w w' S ⟨vs,hlen,T1,T2,⟨h1,h2⟩,u2,e⟩ hle hh hz f hf;subst e;rw[bG.1 hf];refine .inr ⟨b,0,0,c,vs,⟨rfl,hc,.inl rfl⟩,⟨hz b (by rw[h1];simp),.inl (by rw[hh];exact h2)⟩,λk xs hk=>?_⟩;have hlt:=(bT.1 hk).1;have hv:vs[k]? =some (vs[k]'(by omega)):=cK (by omega);have hg:(qW A vs xss)[k]? =some (A (vs[k]'(by omega)) xs):=Qm A hv hk;obtain⟨T3,⟨T4,T5,u4,u5,e5⟩,u6⟩:=u2.fK (ay.at hg);subst e5;refine⟨fv (vs[k]'(by omega)),λj u hj=>?_,λg hgm=>?_⟩
 ·rw[hpat]at hj;match j,hj with
  |0,hj=>
   cases hj;show vs[0+k*E.n+0]? =_;rw[hn];simp
 ·exact hA _ _ w w' T4 u4 hle hh (λi hi=>hz i (ni _ (u6.mem_iff.2 (kw _ hi)))) g hgm
end
def F8{α:Type}(v:Value)(xs:List α):aJ:=⟨λ_=>xs=[]->v=.slice none 0 0,λ_ h=>h⟩
def j5{α:Type}(E:Enc α)(v:Value)(xs:List α):OA:=⟨λw S=>(ap E v xs).p w S/\(xs=[]->v=.slice none 0 0),λa h hp=>⟨(ap E v xs).loc a h hp.1,hp.2⟩⟩
def qX{α:Type}(E:Enc α):Enc (List α):=⟨1,Value,λ_ v=>[v],λxs v=>[ah E v xs,F8 v xs],λ_ _=>rfl⟩
theorem ZO{α:Type}{E:Enc α}{v:Value}{xs:List α}:qN (j5 E v xs) [ah E v xs,F8 v xs]:=by
 intro w w' S hp hle hh hz f hf;rcases dF.1 hf with rfl|hf
 ·exact gp w w' S hp.1 hle hh hz _ (bG.2 rfl)
 ·rw[bG.1 hf];exact hp.2
theorem Qp{α:Type}(E:Enc α)(v:Value)(xs:List α)(h:(xs=[]->v=.slice none 0 0)->R Q B w0 (ap E v xs::kl') F)(hk:ay (j5 E v xs) kl kl':=by exact gu):R Q B w0 kl F:=λw s=>by
 obtain⟨S,⟨S1,S2,q1,q2,e⟩,h2,h3⟩:=(s.fK hk).own;exact h q1.2 w ⟨s.agree,s.le,s.fM,⟨S,⟨S1,S2,q1.1,q2,e⟩,h2,h3⟩,s.facts⟩
theorem Qq{α:Type}(E:Enc α)(v:Value)(xs:List α)(hz:xs=[]->v=.slice none 0 0)(h:R Q B w0 (j5 E v xs::kl') F)(hk:ay (ap E v xs) kl kl':=by exact gu):R Q B w0 kl F:=λw s=>
 h w ((s.fK hk).Aa (A:=ap E v xs) λw S hp=>⟨hp,hz⟩)
theorem Qr{α:Type}{E:Enc α}{v:Value}{xss:List (List α)}{w:Wd}(h:(ah (qX E) v xss).p w):(ah (aj E) v xss).p w:=by
 rcases h with h|⟨i,o,f,c,cells,h1,h2,h3⟩
 ·exact .inl h
 ·refine .inr ⟨i,o,f,c,cells,h1,h2,λk x hk=>?_⟩;obtain⟨y,q1,q2⟩:=h3 k x hk;exact⟨y,q1,λf hf=>q2 f (by rw[bG.1 hf];exact dx ..)⟩
theorem Az{A A':OA}(e:A=A')(h:R Q B w0 (A'::kl') F)(hk:ay A kl kl':=by exact gu):R Q B w0 kl F:=by
 subst e;exact λw s=>h w (s.fK hk)
theorem St.Qs{α:Type}{E:Enc α}{v:Value}{ax:List (α×E.Y)}{w:Wd}(h0:0<ax.length)(hall:(oO E ax).p w)(s:St B w0 (ar E v ax::kl') F w):St B w0 (ap E v (ax.map (·.1))::kl') F w:=by
 obtain⟨S,⟨S1,S2,q1,q2,e⟩,h2,h3⟩:=s.own;refine⟨s.agree,s.le,s.fM,⟨S,⟨S1,S2,?_,q2,e⟩,h2,h3⟩,s.facts⟩;rcases q1 with⟨h4,_⟩|⟨b,f,h4,h5,h6,h7⟩
 ·rw[h4]at h0;simp at h0
 ·refine .inr ⟨b,0,f,_,by rw[di];exact h4,h5,h6,h7,by rw[uV,di,eH],λk x hk=>?_⟩;rw[eY]at hk;cases hp:ax[k]? with
  |none=>rw[hp]at hk;cases hk
  |some p=>
   rw[hp]at hk;cases hk;exact⟨p.2,λj u hj=>by rw[eH];exact uW hp hj,λf hf=>hall p (bJ hp) f hf⟩
theorem ZP{α:Type}{E:Enc α}{v:Value}{ax:List (α×E.Y)}(h0:0<ax.length)(h:R Q B w0 (ap E v (ax.map (·.1))::kl') F)(hfs:∀w,(∀f∈F,f.p w)->(oO E ax).p w)(hk:ay (ar E v ax) kl kl':=by exact gu):R Q B w0 kl F:=λw s=>
 h w (St.Qs h0 (hfs w s.facts) (s.fK hk))
end Go.Ideal
namespace Go.Ideal
variable {P:Program}
theorem aZ.facts{Y:Type}{fn:Fn}{args cap:List Value}{kl:List OA}{F F2:List aJ}{val:Y->Value}{kl':Y->List OA}{fs:Y->List aJ}{pr:Y->Prop}(h:aZ P fn args cap kl F val kl' fs pr)(hF:∀f∈F,f∈F2):aZ P fn args cap kl F2 val kl' fs pr:=
 λB w s=>h B w ⟨s.agree,s.le,s.fM,s.own,λf hf=>s.facts f (hF f hf)⟩
section
variable {B:List Nat} {w0:Wd} {kl kl' bA:List OA} {F:List aJ} {K:KO} {n:Nat} {l:List (Nat×Value)} {D:List Deferred} {pm:Option FrameMode} {ro:Option Nat}
end
section
variable {B:List Nat} {w0:Wd} {kl:List OA} {F:List aJ}
end
end Go.Ideal
namespace Go.Ideal
variable {P:Program} {B:List Nat} {w0:Wd} {kl kl' bA:List OA} {F:List aJ} {K:KO} {ds:List Tmp} {rest:List bO} {n:Nat} {l:List (Nat×Value)} {D:List Deferred} {pm:Option FrameMode} {ro:Option Nat} {d:Nat} {g:Option (Tmp×Bool)}
theorem ZQ{e:TypeId}{size bytes:Nat}{zero:List Value}{s x:Operand}(m:Nat)(h0:0<m)(hm:m*bytes<=1073741824/\m*size<=1073741824/\m<=1073741824)
 (next:∀b,R (λh=>aD P ds rest (act n ((d,.slice (some ⟨b,0,some size⟩) m m)::l) D pm ro) h K) B w0 (pt b (.cells (zeros zero m))::kl) F)
 (hs:ev l s=.slice none 0 0:=by rfl) (hx:ev l x=.int .i64 (m:Int):=by rfl) (hn:Nat.blt d n=true:=by rfl) (hg:bS l g=true:=by rfl):
 R (λh=>aD P ds (⟨⟨some d,g,.zA e size bytes zero s x⟩,[]⟩::rest) (act n l D pm ro) h K) B w0 kl F:=λw st=>by
 have hle:∀{a b:Nat},a<=b->Nat.ble a b=true:=λh=>by rw[ou];exact h
 refine jH hn hg (v:=.slice (some ⟨w.h.next,0,some size⟩) m m) (h':=w.h.new (.cells (zeros zero m))) ?_ (next w.h.next (w.new _) (st.new _));obtain⟨k,rfl⟩:∃k,m=k+1:=⟨m - 1,by omega⟩
 have hx':ev l x=.int .i64 (.ofNat (k+1)):=hx;simp only[aA.run,hx',hs];have e1:(Nat.ble (Nat.mul (k+1) bytes) small&&Nat.ble (Nat.mul (k+1) size) small&&Nat.ble (k+1) small)=true:=by
  rw[hle (show Nat.mul (k+1) bytes<=small from hm.1),hle (show Nat.mul (k+1) size<=small from hm.2.1),hle (show k+1<=small from hm.2.2)];rfl
 rw[e1];rfl
theorem Qt{cs1 cs2 xs:List Value}(h:xs.length<=cs2.length):iL (cs1++cs2) cs1.length xs=some (cs1++(xs++cs2.drop xs.length)):=by
 obtain⟨r,hr⟩:=DF (cs1++cs2) cs1.length xs (by rw[gB];omega);obtain⟨h1,h2,h3⟩:=BK hr;rw[hr];congr 1;apply jw;intro j;rw[h3 j];by_cases c1:j<cs1.length
 ·rw[if_neg (by omega),kU c1,kU c1]
 ·by_cases c2:j<cs1.length+xs.length
  ·rw[if_pos ⟨by omega,c2⟩,mZ (by omega),kU (by omega)]
  ·rw[if_neg (by omega),mZ (by omega),mZ (by omega),mZ (by omega),mY];congr 1;omega
theorem Qu{α:Type}{E:Enc α}{v:Value}{ax:List (α×E.Y)}{w:Wd}(h:(nR E v ax).p w):lZ v=some ax.length/\uy E.n ax.length v w.h=some (bP E ax):=by
 rcases h with⟨rfl,a,c,rfl,_⟩|⟨i,o,f,c,cells,⟨e1,hc⟩,q2,q3⟩
 ·exact⟨rfl,rfl⟩
 subst e1;refine⟨rfl,?_⟩;by_cases hne:ax=[]
 ·subst hne;rfl
 obtain⟨k,hk'⟩:∃k,ax.length=k+1:=⟨ax.length - 1,by have:=xI.2 hne;omega⟩
 have hfl:=uV ax;have hcells:∀j,j<ax.length*E.n->cells[o+j]? =(bP E ax)[j]?:=λj hj=>by
  have hn0:0<E.n:=by
   rcases Bj E.n with h0|h0
   ·rw[h0]at hj;omega
   ·exact h0
  have hd:j/E.n<ax.length:=by rw[Nat.div_lt_iff_lt_mul hn0];exact hj
  have hmod:=Nat.mod_lt j hn0;have hpk:=cK hd;have hu:(E.pat (ax[j/E.n]).1 (ax[j/E.n]).2)[j%E.n]? =some ((E.pat (ax[j/E.n]).1 (ax[j/E.n]).2)[j%E.n]'(by rw[E.len];exact hmod)):=cK _;have h1:=(q3 (j/E.n) _ hpk).1 (j%E.n) _ hu;have h2:=uW hpk hu;have wJ:j/E.n*E.n+j%E.n=j:=by rw[Nat.mul_comm];exact Nat.div_add_mod j E.n
  rw[ng,wJ]at h1;rw[wJ]at h2;rw[h1,h2]
 have hlen:o+ax.length*E.n<=cells.length\/ax.length*E.n=0:=by
  rcases Bj (ax.length*E.n)with h0|h0
  ·exact .inr h0
  ·left;have h1:=hcells (ax.length*E.n - 1) (by omega);have hx0:(bP E ax)[ax.length*E.n - 1]? =some ((bP E ax)[ax.length*E.n - 1]'(by omega)):=cK _;rw[hx0]at h1;have:=(bT.1 h1).1;omega
 have hread:w.h.gG i o (ax.length*E.n)=some (bP E ax)\/(ax.length*E.n=0):=by
  rcases hlen with hlen|hlen
  ·left;rw[q2.cells.gG,l6,l7,if_pos (by rw[lX];omega)];congr 1;apply jw;intro j;rw[qw];by_cases hj:j<ax.length*E.n
   ·rw[if_pos hj,mY];exact hcells j hj
   ·rw[if_neg hj,gL (by omega)]
  ·exact .inr hlen
 have hread:w.h.gG i o (ax.length*E.n)=some (bP E ax):=by
  rcases hread with h|h
  ·exact h
  ·have hf0:bP E ax=[]:=jl.1 (by omega);rw[h,q2.cells.gG,l7,if_pos (bX _),hf0];rfl
 rw[hk']at hread⊢;exact hread
theorem Qv{α:Type}{e:TypeId}{size bytes b m cap:Nat}{f:Option Nat}{s x:Operand}{v:Value}(E:Enc α)(ax:List (α×E.Y))(cs1 cs2:List Value)(h1:cs1.length=m*E.n)(h2:ax.length*E.n<=cs2.length)(hc:m+ax.length<=cap)
 (hm:(m+ax.length)*bytes<=1073741824/\(m+ax.length)*size<=1073741824/\(m+ax.length)<=1073741824)
 (next:R (λh=>aD P ds rest (act n ((d,.slice (some ⟨b,0,f⟩) (m+ax.length) cap)::l) D pm ro) h K) B w0 (pt b (.cells (cs1++(bP E ax++cs2.drop (ax.length*E.n))))::kl') F)
 (hs:ev l s=.slice (some ⟨b,0,f⟩) m cap:=by rfl) (hx:ev l x=v:=by conv=>lhs;whnf) (hf:nR E v ax∈F:=by exact qO) (hz:E.n=size:=by rfl) (hk:ay (pt b (.cells (cs1++cs2))) kl kl':=by exact gu) (hn:Nat.blt d n=true:=by rfl) (hg:bS l g=true:=by rfl):
 R (λh=>aD P ds (⟨⟨some d,g,.append e size bytes s x⟩,[]⟩::rest) (act n l D pm ro) h K) B w0 kl F:=λw st=>by
 subst hz;have hle:∀{a b:Nat},a<=b->Nat.ble a b=true:=λh=>by rw[ou];exact h
 have st1:=st.fK hk;obtain⟨r1,r2⟩:=Qu (st.facts _ hf);have hfl:=uV ax;have hlv:iL (cs1++cs2) cs1.length (bP E ax)=some (cs1++(bP E ax++cs2.drop (ax.length*E.n))):=by
  rw[Qt (by omega),hfl]
 refine jH hn hg (v:=.slice (some ⟨b,0,f⟩) (m+ax.length) cap) (h':=w.h.set b (.cells (cs1++(bP E ax++cs2.drop (ax.length*E.n))))) ?_ (next ⟨w.h.set b _,w.z,λi hi=>w.j4 i hi⟩ st1.write);have e1:w.h.storeAt b (Nat.add 0 (Nat.mul m E.n)) (bP E ax)=some (w.h.set b (.cells (cs1++(bP E ax++cs2.drop (ax.length*E.n))))):=by
  unfold IH.storeAt;simp only[st1.get.1];rw[show Nat.add 0 (Nat.mul m E.n)=cs1.length by rw[h1];exact eH _,hlv]
 simp only[aA.run,hx,hs,r1,r2,pE];show cond (Nat.ble (Nat.mul (m+ax.length) bytes) small&&Nat.ble (Nat.mul (m+ax.length) E.n) small&&Nat.ble (m+ax.length) small) (cond (Nat.ble (m+ax.length) cap) (match w.h.storeAt b (Nat.add 0 (Nat.mul m E.n)) (bP E ax)with|some h=>some (Value.slice (some ⟨b,0,f⟩) (m+ax.length) cap,h)|none=>none) _) none=_;rw[hle (show Nat.mul (m+ax.length) bytes<=small from hm.1),hle (show Nat.mul (m+ax.length) E.n<=small from hm.2.1),hle (show m+ax.length<=small from hm.2.2),hle hc,e1];rfl
theorem ZR{ρ:Operand->Value}{x hi:Operand}{b m c k:Nat}(hx:ρ x=.slice (some ⟨b,0,some (k+1)⟩) m c)(hh:ρ hi=.int .i64 (0:Int)):Pu P ρ (.uq (k+1) x none (some hi) none) (.slice (some ⟨b,0,some (k+1)⟩) 0 c):=λh=>by
 simp only[aA.run,hx];show(match bounds? m c none (some (ρ hi)) none with|some (l,hh,m)=>cond (Nat.beq (Nat.succ k) (k+1)) (some (Value.slice (some ⟨b,Nat.add 0 (Nat.mul l (k+1)),some (Nat.succ k)⟩) (Nat.sub hh l) (Nat.sub m l),h)) none|none=>none)=_;rw[hh];have e1:bounds? m c none (some (.int .i64 (0:Int))) none=some (0,0,c):=rfl;rw[e1];show cond (Nat.beq (Nat.succ k) (k+1)) (some (Value.slice (some ⟨b,Nat.add 0 (Nat.mul 0 (k+1)),some (Nat.succ k)⟩) (Nat.sub 0 0) (Nat.sub c 0),h)) none=_;rw[show Nat.beq (Nat.succ k) (k+1)=true from zq _,show Nat.mul 0 (k+1)=0 from vV _];rfl
theorem ZT{ρ:Operand->Value}{x hi:Operand}{k c:Nat}(hx:ρ x=.slice none 0 c)(hh:ρ hi=.int .i64 (0:Int)):Pu P ρ (.uq k x none (some hi) none) (.slice none 0 c):=λh=>by
 simp only[aA.run,hx];show(match bounds? 0 c none (some (ρ hi)) none with|some (l,hh,m)=>some (Value.slice none (Nat.sub hh l) (Nat.sub m l),h)|none=>none)=_;rw[hh];have e1:bounds? 0 c none (some (.int .i64 (0:Int))) none=some (0,0,c):=rfl;rw[e1];rfl
theorem Qw{ρ:Operand->Value}{s x:Operand}{e:TypeId}{size bytes c:Nat}{a:Option Addr}(hs:ρ s=.slice none 0 0)(hx:ρ x=.slice a 0 c):Pu P ρ (.append e size bytes s x) (.slice none 0 0):=λh=>by
 simp only[aA.run,hx,hs];show pE size bytes (.slice none 0 0) 0 [] h=_;unfold pE;have h0:∀m,Nat.mul (Nat.add 0 0) m=0:=λm=>vV m;show cond (Nat.ble (Nat.mul (Nat.add 0 0) bytes) small&&Nat.ble (Nat.mul (Nat.add 0 0) size) small&&Nat.ble (Nat.add 0 0) small) (cond (Nat.ble (Nat.add 0 0) 0) (some (Value.slice none (Nat.add 0 0) 0,h)) _) none=_;rw[h0,h0];rfl
theorem Kg{ρ:Operand->Value}{x:Operand}(hx:ρ x=.slice none 0 0):Pu P ρ (.Bv x) (.int .i64 0):=λh=>by
 simp only[aA.run,hx];rfl
end Go.Ideal
namespace Go.Ideal
open Go.RowKit Go.WideShapes Go.ChangeShapes
variable {P:Program}
def qY(n:Nat):Lay:=(List.range n).map λg=>(some ⟨g,0,0,0,0⟩,none)
theorem Qx{n i:Nat}(h:i<n):(qY n)[i]? =some (some ⟨i,0,0,0,0⟩,none):=by
 unfold qY;rw[eY,Hf h];rfl
theorem ZU(n:Nat):(qY n).length=n:=by unfold qY;rw[di,Mx]
theorem ZV(yx:P.follows .mixedOrders=true){f:FuncId}(fn:Func)(hfn:P.funcs[f]? =some fn)(hbody:fn.body.isNone=false)(hname:(fn.name== "runtime.NumGoroutine")=false){args args':List Value}{L:Lay}{w:World}{v:Value}(ZW:jG P (ji L))
 (hL:∀(i:Nat) g cs,L[i]? =some (some g,some cs)->z8 L w g cs) (hargs:aS (ji L) args args') (hv:bH v=true)
 (hc:CALL P ⟨.func f,args,[],none⟩ (jI L) (λr pm h'=>pm=none/\r=.ok v/\Agree (jI L) h')):
 Calls P f ⟨args'⟩ w (λe w'=>e=.returned v/\Below w.heap.size w w'):=by
 have hM:=Xo yx hc;have hW:WR P (ji L) (jI L) w:=XM hL;obtain⟨nx,F0,n1,n2,n3⟩:=hM (ji L) w (.func f) args' [] ZW hW (.func f) hargs .nil;have hnx:nx=.enter f ⟨args'⟩:=by
  have hcall:(callFunc f ⟨args'⟩).run P w=.ok (.enter f ⟨args'⟩) w:=by
   simp only[callFunc,cB,run_program,cZ,hfn,hname,hbody,sP,if_false,dY]
  have e:(⟨args'⟩:Array Value)++(⟨[]⟩:Array Value)=⟨args'⟩:=by apply Array.ext';simp
  have n1:(invoke (.fn (.func f) ⟨[]⟩) ⟨args'⟩).run P w=.ok nx w:=n1;simp only[invoke,e]at n1;rw[hcall]at n1;cases n1;rfl
 subst hnx;have yJ:F0=Frame.enter P f ⟨args'⟩ .normal:=by
  have:entry P .normal (.enter f ⟨args'⟩)=some (Frame.enter P f ⟨args'⟩ .normal):=rfl;have n2:entry P .normal (.enter f ⟨args'⟩)=some F0:=n2;rw[this]at n2;exact(Option.some.inj n2).symm
 subst yJ;intro cs;obtain⟨r,pm',h',β',w',r',cs1,q1,q2,q3,q4,q5,q6⟩:=n3 cs (by intro m hm;cases hm);obtain⟨hp,rfl,hag⟩:=q1;cases q5;cases q4 with
 | @ok v v' pQ=>
   have:=pQ.nA hv;subst this;rcases q6 with⟨f1,a1,F1,e1,e2,e3,e4,e5⟩|⟨⟨_,l,e1⟩,_⟩
   ·cases e1;refine⟨.returned v',w',F1,⟨rfl,?_⟩,e2,e3,?_⟩
    ·refine⟨q3.os,q3.tape,q3.output,q3.size,λk hk=>?_⟩;by_cases hx:∀i g,ji L i=some g->(jI L).get i≠none->g.b≠k
     ·exact q3.keep k hk hx
     ·have hx:∃i g,ji L i=some g/\(jI L).get i≠none/\g.b=k:=by
       apply Classical.byContradiction;intro hc;exact hx λi g hi hg hb=>hc ⟨i,g,hi,hg,hb⟩
      obtain⟨i,g,hi,hg,rfl⟩:=hx;have hin:=hW.dom i g hi;exact q3.pM i g (by rw[hag.low (bI _)];exact hin) hin hi hg hk
    ·obtain⟨t1,t2,fn,t3,t4⟩:=e5;exact⟨t1,t2,e4,fn,t3,t4⟩
   ·cases e1
section
variable {H:Type} {enc:TypeId×Value->H} {W:World}
theorem ZX(yx:P.follows .mixedOrders=true){f:FuncId}(fn:Func)(hfn:P.funcs[f]? =some fn)(hbody:fn.body.isNone=false)(hname:(fn.name== "runtime.NumGoroutine")=false){K:TypeId->Prop}
 (hK:∀t,K t->PlainT P K t) {ts:List TypeId} {vs:List Value} {ds:List (DataW H)} {ps:List MemPlace} (hT:∀t∈ts,K t) (hok:∀(j:Nat) t v,ts[j]? =some t->vs[j]? =some v->Value.okWide P W .any 0 t v)
 (hA:DataW.TrodAll enc P W 0 (λ_=>true) true ts vs ds ps)
 (ZY:∀(w:Wd) (vs':List Value),P.globals.size<=w.h.next->(∀i,i<w.h.next->w.z i)->vs'.length=vs.length->(∀(j:Nat) t v d,ts[j]? =some t->vs'[j]? =some v->ds[j]? =some d->tJ P w t v d)->∃F,(∀f∈F,f.p w)/\bY P f vs' F (.bool true)):
 Calls P f ⟨vs⟩ W (λe w'=>e=.returned (.bool true)/\Below W.heap.size W w'):=by
 obtain⟨M,vs',h1,h2,h3⟩:=OT hK hT hok hA (qY P.globals.size);have hlG:=ZU P.globals.size;refine ZV yx fn hfn hbody hname (L:=qY P.globals.size++M) (args:=vs') (λg hg=>⟨⟨g,0,0,0,0⟩,?_,rfl,rfl⟩) (λi g cs hi=>?_) h1 rfl ?_
 ·unfold ji;rw[kU (by omega),Qx hg];rfl
 ·by_cases hlt:i<P.globals.size
  ·rw[kU (by omega),Qx hlt]at hi;cases hi
  ·exact h3 i g cs (by omega) hi
 have hlen:vs'.length=vs.length:=by
  have:∀{a b:List Value},aS (ji (qY P.globals.size++M)) a b->a.length=b.length:=by
   intro a;induction a with
   |nil=>intro b h;cases h;rfl
   |cons x a ih=>intro b h;cases h with|cons q r=>simp[ih r]
  exact this h1
 obtain⟨F,hF,hfn'⟩:=ZY (FL (qY P.globals.size++M)) vs' (by show _<=(qY P.globals.size++M).length;rw[gB];omega) (λi hi=>hi) hlen (λj t v d ht hv hd=>by
  obtain⟨v0,e,pQ⟩:=YY (ts:=ts) h1 j v hv;exact YX rfl (h2 j t v d ht hv hd) pQ (hok j t v0 ht e))
 have st:St [] (FL (qY P.globals.size++M)) [] F (FL (qY P.globals.size++M)):=⟨⟨bI _,λ_ _ _=>rfl,λ_ _=>rfl⟩,Wd.Le.refl _,λi _ hz=>.inl hz,⟨[],rfl,um,λi hi=>by cases hi⟩,hF⟩
 refine .qL _ (hfn' [] (FL (qY P.globals.size++M)) st) ?_;rintro r pm h' ⟨rfl,w',y,rfl,s,rfl,_⟩;exact⟨rfl,rfl,⟨s.agree.next,λi hi=>s.agree.get i hi (by simp),λhl=>s.agree.low hl (by simp)⟩⟩
end
def F9(n:Nat):aJ:=⟨λw=>n<=w.h.next,λa h=>mX h a.next⟩
theorem ZZ{f:FuncId}{v:Value}{n:Nat}(hs:∀h:IH,n<=h.next->CALL P ⟨.func f,[],[],none⟩ h (λr pm h'=>pm=none/\r=.ok v/\h'=h)):bY P f [] [F9 n] v:=λB w s=>
 .qL _ (hs w.h (s.facts (F9 n) (bG.2 rfl))) (by rintro r pm h' ⟨rfl,rfl,rfl⟩;exact⟨rfl,w,(),rfl,⟨s.agree,s.le,s.fM,s.own,λf h=>by cases h⟩,rfl,trivial⟩)
end Go.Ideal
namespace Go.Ideal
variable {P:Program}
def Kh:Value->Bool
 | .tuple ⟨c::cs⟩=>bH c&&cs.all bH
 | .tuple _=>false
 |v=>bH v
theorem aS.Qy{β:aC}:∀{l:List Value},l.all bH=true->aS β l l
 |[],_=>.nil
 |v::l,h=>by
  rw[Bh,fZ]at h;exact .cons (VR.free h.1) (aS.Qy h.2)
theorem aS.Ki{β:aC}:∀{l l':List Value},aS β l l'->l.all bH=true->l'=l
 |_,_,.nil,_=>rfl
 |_,_,.cons h1 h2,h=>by
  rw[Bh,fZ]at h;rw[h1.nA h.1,aS.Ki h2 h.2]
theorem VR.Z0{β:aC}{v:Value}(h:Kh v=true):VR β v v:=by
 unfold Kh at h;split at h
 ·rename_i c cs;exact .tuple (aS.Qy (by rw[Bh];exact h))
 ·cases h
 ·exact VR.free h
