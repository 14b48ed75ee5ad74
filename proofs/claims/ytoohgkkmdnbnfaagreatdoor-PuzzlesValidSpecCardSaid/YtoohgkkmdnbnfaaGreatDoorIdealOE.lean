/-
  The ideal machine, 72: conversions between integers, shifts of unsigned ones; arrays of numbers as keys.
-/
import Derived.Test.YtoohgkkmdnbnfaaGreatDoorIdealNE
set_option linter.all false
namespace Go.Ideal
variable {P:Program}
theorem CV{ρ:Operand->Value}{src dst:TypeId}{x:Operand}{kk k:IntKind}{n m:Int}{ds:TypeDesc}(hs:P.underlying src=some ds)(hd:P.underlying dst=some (.int k))(hx:ρ x=.int kk n)(hw:k.wrap n=m):Pu P ρ (.conv src dst x) (.int k m):=λh=>by
 have h1:dx P (convert src dst (.int kk n))=some (.int k m):=by
  unfold convert;rw[fQ,oL hs];simp only[gL];rw[fQ,oL hd];simp only[gL];rw[<- hw];rfl
 simp only[aA.run,hx,jv,h1];rfl
theorem QA{a:Nat}(h:a<18446744073709551616):IntKind.u64.wrap (a:Int)=a:=by
 show(let m:=(a:Int)%(2^64:Int);if false&&m>=(2^63:Int)then m - (2^64:Int)else m)=_;simp only[Bool.false_and,rG,if_false];rw[Int.emod_eq_of_lt (by omega) (by simpa using(by omega:(a:Int)<18446744073709551616))]
theorem QB{ρ:Operand->Value}{x y:Operand}{t:TypeId}{a b:Nat}(hx:ρ x=.int .u64 (a:Int))(hy:ρ y=.int .u64 (b:Int))(hb:b<64):Pu P ρ (.bin .shr t x y) (.int .u64 ((a>>>b:Nat):Int)):=λh=>by
 have hv:dx P (binOp .shr t (.int .u64 (a:Int)) (.int .u64 (b:Int)))=some (.int .u64 ((a>>>b:Nat):Int)):=by
  show dx P (Op.shift .shr .u64 a .u64 b)=_;unfold Op.shift;rw[if_neg (by omega)];show some (Value.int .u64 ((a:Int).fdiv (2^(min (b:Int).toNat 64))))=_;rw[show min (b:Int).toNat 64=b by simp;omega,TW];congr 2;rw[show((2:Int)^b)=((2^b:Nat):Int)by simp,Int.fdiv_eq_ediv_of_nonneg _ (Int.natCast_nonneg _)];simp
 have h1:jv P (do eqGuard .shr t x y (.int .u64 (a:Int)) (.int .u64 (b:Int));binOp .shr t (.int .u64 (a:Int)) (.int .u64 (b:Int)))=some (.int .u64 ((a>>>b:Nat):Int)):=by
  unfold jv;rw[fQ,Ab (by intro c e;cases e) (by intro e;cases e)];simp only[gL,hv];rfl
 have h2:jS P .shr t x y (.int .u64 (a:Int)) (.int .u64 (b:Int))=some (.int .u64 ((a>>>b:Nat):Int)):=by
  unfold jS;have:(match pJ .u64 .u64 with|true=>mR .shr .u64 (a:Int) (b:Int)|false=>none)=none:=rfl;simp only[pJ,bD,Gs,cond];exact h1
 simp only[aA.run,hx,hy,h2]
theorem Y9{α:Type}[DecidableEq α]{aP:α->Value}{kt:TypeId}{d:TypeDesc}(hu:P.underlying kt=some d)(hn:∀a b,Instr.sameNow d (aP a) (aP b)=none)(he:∀a b,dx P (Op.equal kt (aP a) (aP b))=some (decide (a=b)))(a:α)(ah:List (α×Value))(es:List MapEntry)(h:mH aP ah es):pG P kt (aP a) es=some (mG a ah 0):=by
 have Za:∀(ah:List (α×Value)) (es:List MapEntry) (i:Nat),mH aP ah es->dx P (Instr.findAsking kt (aP a) es i)=some (mG a ah i):=by
  intro ah;induction ah with
  |nil=>
   intro es i h;cases es with
   |nil=>rfl
   |cons e es=>cases h
  |cons p ah ih=>
   intro es i h;obtain⟨e,es',rfl,h1,h2,h3⟩:=Jt h;unfold Instr.findAsking;rw[fQ,h1,he];simp only[gL];unfold mG;by_cases hab:a=p.1
   ·rw[dU hab,if_pos hab,h2];rfl
   ·rw[cO hab,if_neg hab];exact ih es' (i+1) h3
 unfold pG Instr.findKey;rw[fQ,oL hu];simp only[gL];cases ah with
 |nil=>
  cases es with
  |nil=>rfl
  |cons e es=>cases h
 |cons p ah=>
  have h':=h;obtain⟨e,es',rfl,h1,h2,h3⟩:=Jt h;have:Instr.findNow d (aP a) (e::es') 0=none:=by
   show(match Instr.sameNow d (aP a) e.key with
   |some true=>some (some (0,e.val))
   |some false=>Instr.findNow d (aP a) es' 1
   |none=>none)=_
   rw[h1,hn]
  rw[this];exact Za _ _ _ h'
abbrev yj:Int×Int->Value:=λp=>.agg ⟨[.int .i64 p.1,.int .i64 p.2]⟩
theorem Zb{kt e:TypeId}(hu:P.underlying kt=some (.array 2 e))(he:P.underlying e=some (.int .i64))(hs:P.info? e|>.map (·.size)|>(·=some 1))(hc:∀a b:Int,ow P kt (.agg ⟨[.int .i64 a,.int .i64 b]⟩)=true):oO P kt yj where
 CO a:=hc a.1 a.2
 find a ah es h:=Y9 hu (λa b=>rfl) (λa b=>by
  have:=Qv (d:=9998) (xs:=[a.1,a.2]) (ys:=[b.1,b.2]) hu he hs rfl rfl;rw[show decide (a=b)=decide ([a.1,a.2]=[b.1,b.2])from rO.2 ⟨λh=>by rw[h],λh=>by
   injection h with h1 h2;injection h2 with h2;exact Prod.ext h1 h2⟩]
  exact this) a ah es h
 same a:=by
  show((⟨[Value.int .i64 a.1,.int .i64 a.2]⟩:Array Value).size==(⟨[Value.int .i64 a.1,.int .i64 a.2]⟩:Array Value).size&&(List.zip [Value.int .i64 a.1,.int .i64 a.2] [Value.int .i64 a.1,.int .i64 a.2]).all λ(x,y)=>Instr.sameBits 9999 x y)=true;simp[Instr.sameBits]
end Go.Ideal
namespace Go.Ideal
section
variable {P:Program}
variable {ds:List Tmp} {rest:List bz} {n:Nat} {l:List (Nat×Value)} {D:List Deferred} {pm:Option FrameMode} {ro:Option Nat} {h:IH} {K:KO} {d:Nat} {g:Option (Tmp×Bool)}
theorem QC{op:aA}{v:Value}{h':IH}{re:List fT}(hn:Nat.blt d n=true)(hg:bE l g=true)(hr:op.run P (ev l) h=some (v,h'))
 (hsm:∀q∈re,∃u h2,q.op.run P (ev ((d,v)::l)) h'=some (u,h2)/\∀d',q.dst=some d'->lk ((d,v)::l) d'=u)
 (next:aD P ds rest (act n ((d,v)::l) D pm ro) h' K):aD P ds (⟨⟨some d,g,op⟩,re⟩::rest) (act n l D pm ro) h K:=
 .jH (rY hg) v h' (by rw[kQ];exact hr) (λq hq _=>by
  obtain⟨u,h2,e1,e2⟩:=hsm q hq;rw[mY hn];exact⟨u,h2,by rw[kQ];exact e1,λd' hd=>by rw[<- e2 d' hd];exact qQ _ _⟩) (by rw[mY hn];exact next)
theorem Zc{re:List fT}{e:TypeId}{size bytes b o m k:Nat}{f:Option Nat}{s x:Operand}{old xs:List Value}(hn:Nat.blt d n=true)(hg:bE l g=true)
 (hs:ev l s=.slice (some ⟨b,o,f⟩) m m) (hx:lI (ev l x)=some (k+1)) (hxs:kw size (k+1) (ev l x) h=some xs) (hold:h.gz b o (m*size)=some old)
 (hf:f=some 0\/f=some size) (hm:(m+(k+1))*bytes<=1073741824/\(m+(k+1))*size<=1073741824/\m+(k+1)<=1073741824)
 (hsm:∀h',xH h h' b (.cells (old++xs))->∀q∈re,∃u h2,q.op.run P (ev ((d,.slice (some ⟨h.next,0,some size⟩) (m+(k+1)) (m+(k+1)))::l)) h'=some (u,h2)/\∀d',q.dst=some d'->lk ((d,.slice (some ⟨h.next,0,some size⟩) (m+(k+1)) (m+(k+1)))::l) d'=u)
 (next:∀h',xH h h' b (.cells (old++xs))->aD P ds rest (act n ((d,.slice (some ⟨h.next,0,some size⟩) (m+(k+1)) (m+(k+1)))::l) D pm ro) h' K):
 aD P ds (⟨⟨some d,g,.append e size bytes s x⟩,re⟩::rest) (act n l D pm ro) h K:=by
 have hle:∀{a b:Nat},a<=b->Nat.ble a b=true:=λh=>by rw[rF];exact h
 have hlt:Nat.ble (m+(k+1)) m=false:=by
  cases hb:Nat.ble (m+(k+1)) m with
  |false=>rfl
  |true=>have:=jd hb;omega
 have hc:(Nat.ble (Nat.mul (m+(k+1)) bytes) small&&Nat.ble (Nat.mul (m+(k+1)) size) small&&Nat.ble (m+(k+1)) small)=true:=by
  rw[hle (show Nat.mul (m+(k+1)) bytes<=small from hm.1),hle (show Nat.mul (m+(k+1)) size<=small from hm.2.1),hle (show m+(k+1)<=small from hm.2.2)];rfl
 have hrun:∃h',(aA.append e size bytes s x).run P (ev l) h=some (.slice (some ⟨h.next,0,some size⟩) (m+(k+1)) (m+(k+1)),h')/\xH h h' b (.cells (old++xs)):=by
  have xI:uV size (k+1) (ev l x) h=some xs:=hxs;simp only[aA.run,hx,xI,hs,sZ];have e1:kw size m (.slice (some ⟨b,o,f⟩) m m) h=some old:=hold;show∃h',(cond (Nat.ble (Nat.mul (m+(k+1)) bytes) small&&Nat.ble (Nat.mul (m+(k+1)) size) small&&Nat.ble (m+(k+1)) small) _ _)=_/\_;rw[hc];show∃h',(cond (Nat.ble (m+(k+1)) m) _ _)=_/\_;rw[hlt];simp only[cond,e1];rcases hf with rfl|rfl
  ·refine⟨_,rfl,?_⟩;exact⟨rfl,λi hi _=>by rw[IH.gP,if_neg (by omega)],⟨sP _,by rw[IH.gP,if_pos rfl,ig]⟩,λ_=>rfl⟩
  ·cases size with
   |zero=>
    refine⟨_,rfl,?_⟩;exact⟨rfl,λi hi _=>by rw[IH.gP,if_neg (by omega)],⟨sP _,by rw[IH.gP,if_pos rfl,ig]⟩,λ_=>rfl⟩
   |succ j=>
    have hj:Nat.beq (Nat.succ j) (j+1)=true:=Nat.beq_refl _;refine⟨(h.kill b).new (.cells (old++xs)),?_,?_⟩
    ·show cond (Nat.beq (Nat.succ j) (j+1)) _ _=_;rw[hj,ig];rfl
    ·exact⟨rfl,λi hi hb=>by rw[IH.gP,if_neg (by show i≠h.next;omega),IH.qG,if_neg hb],⟨sP _,by rw[IH.gP];exact if_pos rfl⟩,λhl=>by rw[IH.GX,IH.xu];omega⟩
 obtain⟨h',hr,hM⟩:=hrun;exact QC hn hg hr (hsm h' hM) (next h' hM)
theorem Zd{re:List fT}{e:TypeId}{size bytes k c:Nat}{s x:Operand}{xs:List Value}(hn:Nat.blt d n=true)(hg:bE l g=true)
 (hs:ev l s=.slice none 0 0) (hx:lI (ev l x)=some (k+1)) (hxs:kw size (k+1) (ev l x) h=some xs)
 (hm:(k+1)*bytes<=1073741824/\(k+1)*size<=1073741824/\(k+1)<=1073741824)
 (hsm:∀h',Agree h h'->At h' h.next (.cells xs)->h'.next=h.next+1->∀q∈re,∃u h2,q.op.run P (ev ((d,.slice (some ⟨h.next,0,some size⟩) (k+1) (k+1))::l)) h'=some (u,h2)/\∀d',q.dst=some d'->lk ((d,.slice (some ⟨h.next,0,some size⟩) (k+1) (k+1))::l) d'=u)
 (next:∀h',Agree h h'->At h' h.next (.cells xs)->h'.next=h.next+1->aD P ds rest (act n ((d,.slice (some ⟨h.next,0,some size⟩) (k+1) (k+1))::l) D pm ro) h' K):
 aD P ds (⟨⟨some d,g,.append e size bytes s x⟩,re⟩::rest) (act n l D pm ro) h K:=by
 have hle:∀{a b:Nat},a<=b->Nat.ble a b=true:=λh=>by rw[rF];exact h
 have e0:Nat.add 0 (k+1)=k+1:=eG _;refine QC hn hg (h':=h.new (.cells xs)) ?_ (hsm _ (IV _ _) (IW _ _) rfl) (next _ (IV _ _) (IW _ _) rfl);have xI:uV size (k+1) (ev l x) h=some xs:=hxs;simp only[aA.run,hx,xI,hs,sZ,e0];rw[hle (show Nat.mul (k+1) bytes<=small from hm.1),hle (show Nat.mul (k+1) size<=small from hm.2.1),hle (show k+1<=small from hm.2.2)];have e1:kw size 0 (.slice none 0 0) h=some []:=by
  show(match (0:Nat)with|0=>some ([]:List Value)|_=>none)=_;rfl
 have e2:Nat.ble (k+1) 0=false:=rfl;simp only[Gs,cond_true,e2,cond_false,e1,ig,di]
end
section
variable {P:Program}
variable {ρ:Operand->Value}
variable {B:List Nat} {w0:Wd} {kl kl':List OA} {F:List aB} {a:aI} {K:KO}
variable {y:bK} {i j m0:Nat} {I:Nat->aI->IH->Prop} {ch:List PanicEntry}
variable {B:List Nat} {w0:Wd} {kl kl':List OA} {F:List aB} {K:KO} {ds:List Tmp} {rest:List bz} {n:Nat} {l:List (Nat×Value)} {D:List Deferred} {pm:Option FrameMode} {ro:Option Nat} {d:Nat} {g:Option (Tmp×Bool)}
theorem Ze{re:List fT}{α:Type}{E:Enc α}{e:TypeId}{size bytes b':Nat}{s x:Operand}{v:Value}{xs:List α}{a:α}{y:E.Y}{cs:List Value}{k1 k2:List OA}(hn:Nat.blt d n=true)(hg:bE l g=true)
 (hs:ev l s=v) (hx:ev l x=.slice (some ⟨b',0,some 0⟩) 1 1) (hk:aj (ap E v xs) kl k1) (hc:aj (pt b' (.cells cs)) k1 k2) (hp:cs=E.pat a y) (hF:Sub (E.fs a y) F) (hz:E.n=size)
 (hm:(xs.length+1)*bytes<=1073741824/\(xs.length+1)*size<=1073741824/\xs.length+1<=1073741824)
 (hsm:∀ad,Same P re (ev ((d,.slice ad (xs.length+1) (xs.length+1))::l)) ((d,.slice ad (xs.length+1) (xs.length+1))::l) B w0 (ap E (.slice ad (xs.length+1) (xs.length+1)) (xs++[a])::k2) F)
 (r:∀ad,R (λh=>aD P ds rest (act n ((d,.slice ad (xs.length+1) (xs.length+1))::l) D pm ro) h K) B w0 (ap E (.slice ad (xs.length+1) (xs.length+1)) (xs++[a])::k2) F):
 R (λh=>aD P ds (⟨⟨some d,g,.append e size bytes s x⟩,re⟩::rest) (act n l D pm ro) h K) B w0 kl F:=by
 intro w st;subst hp hz;have hlen:=E.len a y;have st2:St B w0 (ap E v xs::pt b' (.cells (E.pat a y))::k2) F w:=st.iC (.cons hk (.cons hc .nil));have hat:At w.h b' (.cells (E.pat a y)):=st2.at_ (.there .here);have kF:St B w0 (ap E v xs::k2) F w:=(st2.fC (.there .here)).tail;have hfs:∀f∈E.fs a y,f.p w:=λf hf=>st.facts f (hF.mem f hf);have hread:w.h.gz b' 0 (1*E.n)=some (E.pat a y):=by
  rw[hat.c.gz,mo,mU,uQ,wQ,if_pos (by omega),<- hlen,eB]
 have hx1:lI (ev l x)=some (0+1):=by rw[hx];rfl
 have hx2:kw E.n (0+1) (ev l x) w.h=some (E.pat a y):=by rw[hx];exact hread
 -- what lies there afterwards
 have put:∀(w':Wd) (c:Nat) (f:Nat) (cells:List Value),cells.length=xs.length*E.n->(∀(k:Nat) z,xs[k]? =some z->∃y,(∀(j:Nat) u,(E.pat z y)[j]? =some u->cells[k*E.n+j]? =some u)/\∀f∈E.fs z y,f.p w')->(∀f∈E.fs a y,f.p w')->
  (f=0\/f=E.n)->∀S,(pt c (.cells (cells++E.pat a y))).p w' S->(ap E (.slice (some ⟨c,0,some f⟩) (xs.length+1) (xs.length+1)) (xs++[a])).p w' S:=by
  intro w' c f cells h1 h2 h3 h4 S hp;refine .inr ⟨c,0,f,_,by rw[fK];rfl,h4,hp.1,hp.2,by rw[fK,fK,h1,hlen,uR,ou,uQ,eG],λk z hk=>?_⟩;by_cases hlt:k<xs.length
  ·rw[l9 hlt]at hk;obtain⟨y',q1,q2⟩:=h2 k z hk;refine⟨y',λj u hj=>?_,q2⟩;rw[eG];have:=q1 j u hj;rw[l9 (bA.1 this).1];exact this
  ·rw[pq (by omega)]at hk;have hk0:k=xs.length:=by
    have:=(bA.1 hk).1;simp at this;omega
   subst hk0;simp at hk;subst hk;refine⟨y,λj u hj=>?_,h3⟩;rw[eG,pq (by omega),h1,Gv];exact hj
 obtain⟨S,⟨S1,S2,q,q2,e1⟩,hnd,hown⟩:=kF.own;rcases q with⟨rfl,rfl,rfl⟩|⟨b,o,f,cells,rfl,hf,rfl,hb,hcl,hel⟩
 ·have key:∀h',Agree w.h h'->At h' w.h.next (.cells (E.pat a y))->h'.next=w.h.next+1->∃w':Wd,w'.h=h'/\St B w0 (ap E (.slice (some ⟨w.h.next,0,some E.n⟩) (([]:List α).length+1) (([]:List α).length+1)) ([]++[a])::k2) F w':=λh' ag uk hnx=>by
   obtain⟨w',rfl,iP⟩:=kF.tail.fresh ag uk hnx;refine⟨w',rfl,?_⟩;have hle:∀f∈E.fs a y,f.p w':=λf hf=>iP.facts f (hF.mem f hf);exact iP.vL λS hp=>put w' _ E.n [] (by simp) (λk z hk=>by cases hk) hle (.inr rfl) S hp
  refine Zd (c:=0) hn hg hs hx1 hx2 (by simpa using hm) (λh' ag uk hnx=>?_) λh' ag uk hnx=>?_
  ·obtain⟨w',rfl,iP⟩:=key h' ag uk hnx;exact hsm _ w' iP
  ·obtain⟨w',rfl,iP⟩:=key h' ag uk hnx;exact r _ w' iP
 ·have vN:St B w0 (pt b (.cells cells)::k2) F w:=⟨kF.agree,kF.le,kF.dR,⟨S,⟨_,S2,⟨rfl,hb⟩,q2,e1⟩,hnd,hown⟩,kF.facts⟩
  have CE:At w.h b (.cells cells):=vN.at_ .here;have key:∀h',xH w.h h' b (.cells (cells.drop o++E.pat a y))->∃w':Wd,w'.h=h'/\St B w0 (ap E (.slice (some ⟨w.h.next,0,some E.n⟩) (xs.length+1) (xs.length+1)) (xs++[a])::k2) F w':=λh' mv=>by
   obtain⟨w',rfl,iP,Aa⟩:=vN.move mv;refine⟨w',rfl,iP.vL λS hp=>?_⟩;have hle:∀f∈E.fs a y,f.p w':=λf hf=>iP.facts f (hF.mem f hf);refine put w' _ E.n (cells.drop o) (by rw[qC];omega) (λk z hk=>?_) hle (.inr rfl) S hp;obtain⟨y',u1,u2⟩:=hel k z hk;exact⟨y',λj u hj=>by rw[oq,<- mQ];exact u1 j u hj,λf hf=>f.mono Aa (u2 f hf)⟩
  refine Zc (old:=cells.drop o) (xs:=E.pat a y) hn hg hs hx1 hx2 ?_ (hf.elim (λe=>.inl (by rw[e])) λe=>.inr (by rw[e])) hm (λh' mv=>?_) λh' mv=>?_
  ·have hdl:(cells.drop o).length=xs.length*E.n:=by rw[qC];omega
   rw[CE.c.gz,mo,mU,if_pos (by omega),<- hdl,eB]
  ·obtain⟨w',rfl,iP⟩:=key h' mv;exact hsm _ w' iP
  ·obtain⟨w',rfl,iP⟩:=key h' mv;exact r _ w' iP
end
section
variable {P:Program} {B:List Nat} {w0:Wd} {kl kl' aR:List OA} {F:List aB} {K:KO} {n:Nat} {l:List (Nat×Value)} {D:List Deferred} {pm:Option FrameMode} {ro:Option Nat}
theorem QD{re:List fT}{α:Type}(E:Enc α){ds:List Tmp}{rest:List bz}{d:Nat}{g:Option (Tmp×Bool)}{e:TypeId}{size bytes b':Nat}{s x:Operand}{v:Value}{xs:List α}(a:α)(y:E.Y){cs:List Value}{k1 k2:List OA}
 (hm:(xs.length+1)*bytes<=1073741824/\(xs.length+1)*size<=1073741824/\xs.length+1<=1073741824)
 (next:∀ad,R (λh=>aD P ds rest (act n ((d,.slice ad (xs.length+1) (xs.length+1))::l) D pm ro) h K) B w0 (ap E (.slice ad (xs.length+1) (xs.length+1)) (xs++[a])::k2) F)
 (hn:Nat.blt d n=true:=by rfl) (hg:bE l g=true:=by rfl)
 (hs:ev l s=v:=by conv=>lhs;whnf) (hx:ev l x=.slice (some ⟨b',0,some 0⟩) 1 1:=by rfl) (hk:aj (ap E v xs) kl k1:=by exact fE) (hc:aj (pt b' (.cells cs)) k1 k2:=by exact fE) (hp:cs=E.pat a y:=by rfl) (hF:Sub (E.fs a y) F:=by exact jV) (hz:E.n=size:=by rfl)
 (hsm:∀ad,Same P re (ev ((d,.slice ad (xs.length+1) (xs.length+1))::l)) ((d,.slice ad (xs.length+1) (xs.length+1))::l) B w0 (ap E (.slice ad (xs.length+1) (xs.length+1)) (xs++[a])::k2) F:=by intro _;repeat (first|exact vO|refine vP rfl (by repeat (first|with_reducible exact aj.here|with_reducible apply aj.there|with_reducible apply aj.app)) (by first|exact rfl|(conv=>lhs;whnf)) rfl ?_|refine xN rfl (by(repeat (first|with_reducible exact bF .. |with_reducible apply bB));first|done|fail) (by first|exact rfl|(conv=>lhs;whnf)) rfl ?_|refine xO rfl (by(repeat (first|with_reducible exact bF .. |with_reducible apply bB));first|done|fail) (by first|exact rfl|(conv=>lhs;whnf)) rfl ?_|refine xP rfl (by repeat (first|with_reducible exact aj.here|with_reducible apply aj.there|with_reducible apply aj.app)) (by first|exact rfl|(conv=>lhs;whnf)) rfl ?_|refine xQ rfl (by(repeat (first|with_reducible exact bF .. |with_reducible apply bB));first|done|fail) (by first|exact rfl|(conv=>lhs;whnf)) rfl ?_|refine xR rfl (by(repeat (first|with_reducible exact bF .. |with_reducible apply bB));first|done|fail) (by first|exact rfl|(conv=>lhs;whnf)) rfl ?_|refine Pm (by first|((with_reducible apply zB);(focus ((conv=>lhs;whnf);(first|done|fail))))|((with_reducible apply zC);(focus ((conv=>lhs;whnf);(first|done|fail))))|((with_reducible apply zH);(focus exact rfl))|((with_reducible apply zJ);(focus exact rfl);(focus exact rfl))|((with_reducible apply zK);(focus exact rfl);(focus exact rfl))|((with_reducible apply zM);(focus exact rfl);(focus exact rfl))|((with_reducible apply zN);(focus exact rfl);(focus exact rfl))|((with_reducible apply zO);(focus exact rfl);(focus exact rfl))|((with_reducible apply zP);(focus exact rfl);(focus exact rfl))|((with_reducible apply zG);(focus exact rfl))|((with_reducible apply zD);(focus exact rfl);(focus ((conv=>lhs;whnf);(first|done|fail))))|((with_reducible apply zF);(focus exact rfl);(focus ((conv=>lhs;whnf);(first|done|fail))))|((with_reducible apply zR);(focus exact rfl);(focus ((conv=>lhs;whnf);(first|done|fail))))|((with_reducible apply zS);(focus exact rfl))|((with_reducible apply zT);(focus exact rfl);(focus ((conv=>lhs;whnf);(first|done|fail))))|((with_reducible apply zU);(focus exact rfl);(focus ((conv=>lhs;whnf);(first|done|fail))))|((with_reducible apply zV);(focus ((conv=>lhs;whnf);(first|done|fail))))|((with_reducible apply zW);(focus exact rfl))|((with_reducible apply zX);(focus exact rfl))|((with_reducible apply zY);(focus exact rfl))|with_reducible exact zI|((with_reducible apply zZ);(focus exact rfl);(focus exact rfl);(focus exact rfl))|((with_reducible apply Ah);(focus exact rfl);(focus exact rfl);(focus ((omega);(first|done|fail))))|((with_reducible apply xM);(focus exact rfl);(focus exact rfl);(focus ((omega);(first|done|fail)));(focus ((omega);(first|done|fail))))|((with_reducible apply z8);(focus exact rfl);(focus exact rfl);(focus ((omega);(first|done|fail)));(focus ((omega);(first|done|fail))))|((with_reducible apply vM);(focus exact rfl);(focus exact rfl);(focus ((omega);(first|done|fail)));(focus ((omega);(first|done|fail))))|((with_reducible apply zQ);(focus exact rfl);(focus exact rfl);(focus ((omega);(first|done|fail)));(focus ((omega);(first|done|fail))))|((with_reducible apply Ac);(focus exact rfl);(focus exact rfl);(focus ((first|assumption|kernel_rfl);(first|done|fail))))|((with_reducible apply Ad);(focus exact rfl);(focus exact rfl);(focus ((first|assumption|kernel_rfl);(first|done|fail))))|((with_reducible apply Ae);(focus exact rfl);(focus exact rfl))|((with_reducible apply Af);(focus exact rfl);(focus exact rfl))|((with_reducible apply Ag);(focus exact rfl);(focus exact rfl);(focus ((omega);(first|done|fail)));(focus ((omega);(first|done|fail))))) rfl ?_)):
 R (λh=>aD P ds (⟨⟨some d,g,.append e size bytes s x⟩,re⟩::rest) (act n l D pm ro) h K) B w0 kl F:=
 Ze hn hg hs hx hk hc hp hF hz hm hsm next
end
end Go.Ideal
namespace Go.Ideal
variable {P:Program}
section
variable {α κ:Type} [DecidableEq κ] {aP:κ->Value} {E:Enc α}
def lm(E:Enc α):List (κ×Value)->List (κ×List α)->List OA
 |p::ah,q::m=>ap E p.2 q.2::lm E ah m
 |_,_=>[]
def qh(E:Enc α)(n:κ):List (κ×Value)->List (κ×List α)->List OA
 |p::ah,q::m=>if n=p.1 then lm E ah m else ap E p.2 q.2::qh E n ah m
 |_,_=>[]
def CW(aP:κ->Value)(E:Enc α)(b:Nat)(m:List (κ×List α)):OA:=
 ⟨λw S=>∃ah:List (κ×Value),ah.map (·.1)=m.map (·.1)/\dK w (fu aP b ah::lm E ah m) S,λa h ⟨ah,h1,h2⟩=>⟨ah,h1,dK.loc a h h2⟩⟩
def QE(E:Enc α)(n:κ)(ah:List (κ×Value))(m:List (κ×List α)):OA:=⟨λw S=>dK w (qh E n ah m) S,λa h hp=>dK.loc a h hp⟩
def QF(E:Enc α)(ah:List (κ×Value))(m:List (κ×List α)):OA:=⟨λw S=>dK w (lm E ah m) S,λa h hp=>dK.loc a h hp⟩
def QG(E:Enc α)(ah:List (κ×Value))(m:List (κ×List α)):aB:=
 ⟨λw=>∀n v xs,bW n ah=some v->bW n m=some xs->(ai E v xs).p w,λa h n v xs h1 h2=>(ai E v xs).mono a (h n v xs h1 h2)⟩
theorem JF{β γ:Type}{n:κ}:∀{ah:List (κ×β)} {m:List (κ×γ)},ah.map (·.1)=m.map (·.1)->(bW n ah=none↔bW n m=none)
 |[],[],_=>⟨λ_=>rfl,λ_=>rfl⟩
 |(a,u)::ah,(b,x)::m,h=>by
  rw[fG,fG]at h;injection h with h1 h2;have h1:a=b:=h1;subst h1;unfold bW;by_cases e:n=a
  ·rw[if_pos e,if_pos e];exact⟨λh=>(nomatch h),λh=>(nomatch h)⟩
  ·rw[if_neg e,if_neg e];exact JF h2
 |[],_::_,h=>by cases h
 |_::_,[],h=>by cases h
theorem QH{n:κ}:∀{ah:List (κ×Value)} {m:List (κ×List α)},bW n ah=none->qh E n ah m=lm E ah m
 |[],_,_=>by unfold qh lm;rfl
 |_::_,[],_=>by unfold qh lm;rfl
 |(a,u)::ah,(b,x)::m,h=>by
  unfold bW at h;by_cases e:n=a
  ·rw[if_pos e]at h;cases h
  ·rw[if_neg e]at h;unfold qh lm;rw[if_neg e,QH h]
theorem JG{n:κ}{v:Value}{xs:List α}:∀{ah:List (κ×Value)} {m:List (κ×List α)},ah.map (·.1)=m.map (·.1)->bW n ah=some v->bW n m=some xs->aj (ap E v xs) (lm E ah m) (qh E n ah m)
 |[],_,_,h,_=>by cases h
 |_::_,[],h,_,_=>by cases h
 |(a,u)::ah,(b,x)::m,h,h1,h2=>by
  rw[fG,fG]at h;injection h with e1 e2;have e1:a=b:=e1;subst e1;unfold bW at h1 h2;unfold lm qh;by_cases e:n=a
  ·rw[if_pos e]at h1 h2⊢;cases h1;cases h2;exact .here
  ·rw[if_neg e]at h1 h2⊢;exact .there (JG e2 h1 h2)
theorem QI{n:κ}{v:Value}{xs:List α}:∀{ah:List (κ×Value)} {m:List (κ×List α)},ah.map (·.1)=m.map (·.1)->aj (ap E v xs) (lm E (upd n v ah) (upd n xs m)) (qh E n ah m)
 |[],[],_=>by unfold upd qh lm lm;exact .here
 |[],_::_,h=>by cases h
 |_::_,[],h=>by cases h
 |(a,u)::ah,(b,x)::m,h=>by
  rw[fG,fG]at h;injection h with e1 e2;have e1:a=b:=e1;subst e1;unfold upd qh;by_cases e:n=a
  ·rw[if_pos e,if_pos e,if_pos e];rw[show lm E ((n,v)::ah) ((n,xs)::m)=ap E v xs::lm E ah m from rfl];exact .here
  ·rw[if_neg e,if_neg e,if_neg e];rw[show lm E ((a,u)::upd n v ah) ((a,x)::upd n xs m)=ap E u x::lm E (upd n v ah) (upd n xs m)from rfl];exact .there (QI e2)
theorem Fa{β γ:Type}{n:κ}{v:β}{x:γ}:∀{ah:List (κ×β)} {m:List (κ×γ)},ah.map (·.1)=m.map (·.1)->(upd n v ah).map (·.1)=(upd n x m).map (·.1)
 |[],[],_=>rfl
 |[],_::_,h=>by cases h
 |_::_,[],h=>by cases h
 |(a,u)::ah,(b,y)::m,h=>by
  rw[fG,fG]at h;injection h with e1 e2;have e1:a=b:=e1;subst e1;unfold upd;by_cases e:n=a
  ·rw[if_pos e,if_pos e,fG,fG,e2]
  ·rw[if_neg e,if_neg e,fG,fG,Fa e2]
variable {B:List Nat} {w0:Wd} {kl kl' aR k1 k2:List OA} {F:List aB} {Q:IH->Prop} {b:Nat} {m:List (κ×List α)}
theorem Zf(E:Enc α)(h:R Q B w0 (CW aP E b ([]:List (κ×List α))::kl') F)(hk:aj (fu aP b []) kl kl':=by exact fE):R Q B w0 kl F:=
 .perm (λw S hS=>by
  obtain⟨S',⟨T1,T2,u1,u2,e⟩,hp⟩:=hS.fC hk;exact⟨S',⟨T1,T2,⟨[],rfl,T1,[],u1,rfl,by simp⟩,u2,e⟩,hp⟩) h
theorem Zg(n:κ)(hk:aj (CW aP E b m) kl kl':=by exact fE)
 (h:∀(ah:List (κ×Value)) (v:Value),ah.map (·.1)=m.map (·.1)->jA false (.slice none 0 0) n ah=v->R Q B w0 (fu aP b ah::ap E v ((bW n m).getD [])::QE E n ah m::kl') F):R Q B w0 kl F:=λw s=>by
 obtain⟨S,⟨S1,S2,⟨ah,hkeys,T1,T2,u1,u2,e1⟩,q2,e⟩,hnd,hall⟩:=(s.fC hk).own;have key:∃T',dK w (ap E (jA false (.slice none 0 0) n ah) ((bW n m).getD [])::qh E n ah m) T'/\T2.Perm T':=by
  cases hl:bW n ah with
  |none=>
   have hm:=(JF (n:=n) hkeys).1 hl;have e1:jA false (.slice none 0 0) n ah=.slice none 0 0:=by unfold jA;rw[hl];rfl
   rw[e1,hm,QH hl];exact⟨T2,⟨[],T2,.inl ⟨rfl,rfl,rfl⟩,u2,rfl⟩,.refl _⟩
  |some v=>
   cases hm:bW n m with
   |none=>rw[(JF (n:=n) hkeys).2 hm]at hl;cases hl
   |some xs=>
    have e1:jA false (.slice none 0 0) n ah=v:=by unfold jA;rw[hl];rfl
    rw[e1];exact u2.fC (JG hkeys hl hm)
 obtain⟨T',⟨T3,T4,u3,u4,e3⟩,hp⟩:=key;subst e e1 e3;have hperm:((T1++T2)++S2).Perm (T1++(T3++(T4++S2))):=by
  rw[dQ];refine List.Perm.append_left T1 ?_;rw[<- dQ];exact List.Perm.append_right S2 hp
 exact h ah _ hkeys rfl w ⟨s.agree,s.le,s.dR,⟨_,⟨T1,_,u1,⟨T3,_,u3,⟨T4,S2,u4,q2,rfl⟩,rfl⟩,rfl⟩,hperm.nodup hnd,λi hi=>hall i (hperm.mem_iff.2 hi)⟩,s.facts⟩
theorem Zh(n:κ){ah:List (κ×Value)}{v:Value}{xs:List α}(hkeys:ah.map (·.1)=m.map (·.1))(h:R Q B w0 (CW aP E b (upd n xs m)::aR) F)
 (h1:aj (fu aP b (upd n v ah)) kl k1:=by exact fE) (h2:aj (ap E v xs) k1 k2:=by exact fE) (h3:aj (QE E n ah m) k2 aR:=by exact fE):R Q B w0 kl F:=
 .perm (λw S hS=>by
  obtain⟨S1,S2,q1,q2,hp⟩:=hS.iC (.cons h1 (.cons h2 (.cons h3 .nil)));obtain⟨T1,U1,u1,⟨T2,U2,u2,⟨T3,U3,u3,u4,e3⟩,e2⟩,e1⟩:=q1;have u4:U3=[]:=u4;subst u4 e3 e2 e1;obtain⟨V,v1,v2⟩:=dK.Jm (QI (E:=E) (n:=n) (v:=v) (xs:=xs) hkeys) (S:=T2++T3) (w:=w) ⟨T2,T3,u2,u3,rfl⟩;refine⟨(T1++V)++S2,⟨T1++V,S2,⟨upd n v ah,Fa hkeys,⟨T1,V,u1,v1,rfl⟩⟩,q2,rfl⟩,hp.trans ?_⟩;rw[iX];exact List.Perm.append_right S2 (List.Perm.append_left T1 v2)) h
theorem Zi(h:∀ah:List (κ×Value),ah.map (·.1)=m.map (·.1)->R Q B w0 (fu aP b ah::QF E ah m::kl') F)(hk:aj (CW aP E b m) kl kl':=by exact fE):R Q B w0 kl F:=λw s=>by
 obtain⟨S,⟨S1,S2,⟨ah,hkeys,T1,T2,u1,u2,e1⟩,q2,e⟩,hnd,hall⟩:=(s.fC hk).own;subst e e1;refine h ah hkeys w ⟨s.agree,s.le,s.dR,⟨T1++(T2++S2),⟨T1,_,u1,⟨T2,S2,u2,q2,rfl⟩,rfl⟩,?_,λi hi=>hall i ?_⟩,s.facts⟩
 ·rw[<- dQ];exact hnd
 ·rw[dQ];exact hi
theorem Zj{ah:List (κ×Value)}(hkeys:ah.map (·.1)=m.map (·.1)):p9 (QF E ah m) [QG E ah m]:=by
 intro w w' S hS hle hh hz f hf;rw[bC.1 hf];have hS:dK w (lm E ah m) S:=hS;clear hf;intro n v xs h1 h2;obtain⟨S',⟨T1,T2,u1,_,e⟩,hp⟩:=hS.fC (JG hkeys h1 h2);subst e;exact kE w w' T1 u1 hle hh (λi hi=>hz i (hp.mem_iff.2 (jO _ hi))) _ (bC.2 rfl)
end
end Go.Ideal
namespace Go.Ideal
variable {P:Program} {B:List Nat} {w0:Wd} {kl kl' aR:List OA} {F:List aB} {K:KO} {ds:List Tmp} {rest:List bz} {n:Nat} {l:List (Nat×Value)} {D:List Deferred} {pm:Option FrameMode} {ro:Option Nat} {d:Nat} {g:Option (Tmp×Bool)}
theorem QJ{α:Type}(E:Enc α){x i:Operand}{v:Value}{xss:List (List α)}(k:Nat)(xs:List α){kk:IntKind}{d2:Nat}{g2:Option (Tmp×Bool)}(hz:xss[k]? =some xs)
 (next:∀b o u,R (λh=>aD P ds rest (act n ((d2,u)::(d,.pointer (some ⟨b,o,none⟩))::l) D pm ro) h K) B w0 kl (ai E u xs::F))
 (hn:Nat.blt d n=true:=by rfl) (hg:bE l g=true:=by rfl) (hn2:Nat.blt d2 n=true:=by rfl) (hg2:∀u,bE ((d,u)::l) g2=true:=by intro _;rfl) (hx:ev l x=v:=by conv=>lhs;whnf) (hi:ev l i=.int kk (k:Int):=by rfl)
 (hk:aj (ap (aC E) v xss) kl kl':=by exact fE):
 R (λh=>aD P ds (⟨⟨some d,g,.mh 1 x i⟩,[]⟩::⟨⟨some d2,g2,.fH (.tmp d)⟩,[]⟩::rest) (act n l D pm ro) h K) B w0 kl F:=by
 intro w s;have s1:=s.fC hk;obtain⟨S,⟨S1,S2,p,p2,e⟩,h2,h3⟩:=s1.own;have hlt:=(bA.1 hz).1;rcases p with⟨h,_⟩|⟨b,o,f,cells,e1,hf,e2,hb,hcl,hel⟩
 ·rw[h]at hz;cases hz
 ·subst e1;obtain⟨y,u1,u2⟩:=hel k xs hz;have hc:cells[o+(k:Int).toNat*1]? =some y:=by
   have:=u1 0 y rfl;simpa[aC]using this
  refine Og hn hg hx hi (by omega) (by omega) ?_;have hbS:b∈S:=by rw[e,e2];simp
  refine I1 hn2 (hg2 _) (by show lk _ d=_;simp[lk]) ⟨(h3 b hbS).2.1,hb⟩ hc (next _ _ y w ⟨s.agree,s.le,s.dR,s.own,λf hf=>?_⟩);rcases cK.1 hf with rfl|hf
  ·exact u2 _ (bC.2 rfl)
  ·exact s.facts f hf
end Go.Ideal
namespace Go.Ideal
variable {P:Program} {B:List Nat} {w0:Wd} {kl kl' aR k1 k2:List OA} {F:List aB} {Q:IH->Prop}
section
variable {β:Type} (A:Value->β->OA)
def qi(vs:List Value)(xss:List β):List OA:=(vs.zip xss).map λp=>A p.1 p.2
def lq(b:Nat)(xss:List β):OA:=
 ⟨λw S=>∃vs:List Value,vs.length=xss.length/\dK w (pt b (.cells vs)::qi A vs xss) S,λa h ⟨vs,h1,h2⟩=>⟨vs,h1,dK.loc a h h2⟩⟩
def QK(vs:List Value)(xss:List β)(k:Nat):OA:=
 ⟨λw S=>dK w ((qi A vs xss).eraseIdx k) S,λa h hp=>dK.loc a h hp⟩
theorem QL{vs:List Value}{xss:List β}{k:Nat}{v:Value}{xs:β}(hv:vs[k]? =some v)(hx:xss[k]? =some xs):(qi A vs xss)[k]? =some (A v xs):=by
 simp[qi,List.zip,eX,List.getElem?_zipWith,hv,hx]
theorem QM{b:Nat}{xss:List β}{k:Nat}{xs:β}(hx:xss[k]? =some xs)(hk:aj (lq A b xss) kl kl':=by exact fE)
 (h:∀(vs:List Value) (v:Value),vs.length=xss.length->vs[k]? =some v->R Q B w0 (pt b (.cells vs)::A v xs::QK A vs xss k::kl') F):R Q B w0 kl F:=λw s=>by
 obtain⟨S,⟨S1,S2,⟨vs,h1,h2⟩,q2,e⟩,hnd,hall⟩:=(s.fC hk).own;subst e;have hlt:=(bA.1 hx).1;have hv:vs[k]? =some (vs[k]'(by omega)):=dz (by omega);refine h vs _ h1 hv w ?_;have hg:(qi A vs xss)[k]? =some (A (vs[k]'(by omega)) xs):=QL A hv hx;obtain⟨T1,T2,u1,u2,e⟩:=h2;obtain⟨T3,⟨T4,T5,u4,u5,e5⟩,u6⟩:=u2.fC (aj.at hg);subst e5 e;have hperm:((T1++T2)++S2).Perm (T1++(T4++(T5++S2))):=by
  rw[dQ];refine List.Perm.append_left T1 ?_;rw[<- dQ];exact List.Perm.append_right S2 u6
 exact⟨s.agree,s.le,s.dR,⟨T1++(T4++(T5++S2)),⟨T1,_,u1,⟨T4,_,u4,⟨T5,S2,u5,q2,rfl⟩,rfl⟩,rfl⟩,hperm.nodup hnd,λi hi=>hall i (hperm.mem_iff.2 hi)⟩,s.facts⟩
theorem Zk{vs:List Value}{xss:List β}{k:Nat}{v:Value}{xs:β}:qi A (vs.set k v) (xss.set k xs)=(qi A vs xss).set k (A v xs):=by
 apply jD;intro j;simp only[qi,eX,rJ,List.zip,List.getElem?_zipWith];by_cases e:k=j
 ·subst e;by_cases h1:k<vs.length
  ·by_cases h2:k<xss.length
   ·simp[h1,h2];omega
   ·simp[h1,h2];omega
  ·simp[h1];omega
 ·simp[e]
theorem QN{b:Nat}{xss:List β}{vs:List Value}{k:Nat}{v:Value}{xs:β}(hlen:vs.length=xss.length)(hk:k<xss.length)(h1:aj (pt b (.cells (vs.set k v))) kl k1:=by exact fE)
 (h2:aj (A v xs) k1 k2:=by exact fE) (h3:aj (QK A vs xss k) k2 aR:=by exact fE) (h:R Q B w0 (lq A b (xss.set k xs)::aR) F):R Q B w0 kl F:=
 .perm (λw S hS=>by
  obtain⟨S1,S2,q1,q2,hp⟩:=hS.iC (.cons h1 (.cons h2 (.cons h3 .nil)));obtain⟨T1,U1,u1,⟨T2,U2,u2,⟨T3,U3,u3,u4,e3⟩,e2⟩,e1⟩:=q1;have u4:U3=[]:=u4;subst u4 e3 e2 e1;have hl:((qi A vs xss).set k (A v xs))[k]? =some (A v xs):=by
   rw[rJ,if_pos rfl,if_pos (by simp[qi];omega)]
  obtain⟨V,v1,v2⟩:=dK.Jm (aj.at hl) (S:=T2++T3) (w:=w) ⟨T2,T3,u2,by rw[PN];exact u3,rfl⟩;refine⟨(T1++V)++S2,⟨T1++V,S2,⟨vs.set k v,by simp[hlen],⟨T1,V,u1,by rw[Zk];exact v1,rfl⟩⟩,q2,rfl⟩,hp.trans ?_⟩;rw[iX];exact List.Perm.append_right S2 (List.Perm.append_left T1 v2)) h
theorem Zl{b m:Nat}{v0:Value}{x0:β}(h0:∀w,(A v0 x0).p w [])(hk:aj (pt b (.cells (List.replicate m v0))) kl kl':=by exact fE)(h:R Q B w0 (lq A b (List.replicate m x0)::kl') F):R Q B w0 kl F:=
 .perm (λw S hS=>by
  obtain⟨S',⟨T1,T2,u1,u2,e⟩,hp⟩:=hS.fC hk;refine⟨S',⟨T1,T2,⟨List.replicate m v0,by simp,⟨T1,[],u1,?_,by simp⟩⟩,u2,e⟩,hp⟩;have:∀m,dK w (qi A (List.replicate m v0) (List.replicate m x0)) []:=by
   intro m;induction m with
   |zero=>rfl
   |succ m ih=>exact⟨[],[],h0 w,ih,rfl⟩
  exact this m) h
theorem Zm{E:Enc β}{b c:Nat}{xss:List β}(fv:Value->E.Y)(hn:E.n=1)(hpat:∀x v,E.pat x (fv v)=[v])(hA:∀v xs,p9 (A v xs) (E.fs xs (fv v)))(hc:xss.length<=c:=by first|exact bn _|omega):p9 (lq A b xss) [ai E (.slice (some ⟨b,0,some 0⟩) xss.length c) xss]:=by
 intro w w' S ⟨vs,hlen,T1,T2,⟨h1,h2⟩,u2,e⟩ hle hh hz f hf;subst e;rw[bC.1 hf];refine .inr ⟨b,0,0,c,vs,⟨rfl,hc,.inl rfl⟩,⟨hz b (by rw[h1];simp),.inl (by rw[hh];exact h2)⟩,λk xs hk=>?_⟩;have hlt:=(bA.1 hk).1;have hv:vs[k]? =some (vs[k]'(by omega)):=dz (by omega);have hg:(qi A vs xss)[k]? =some (A (vs[k]'(by omega)) xs):=QL A hv hk;obtain⟨T3,⟨T4,T5,u4,u5,e5⟩,u6⟩:=u2.fC (aj.at hg);subst e5;refine⟨fv (vs[k]'(by omega)),λj u hj=>?_,λg hgm=>?_⟩
 ·rw[hpat]at hj;match j,hj with
  |0,hj=>
   cases hj;show vs[0+k*E.n+0]? =_;rw[hn];simp
 ·exact hA _ _ w w' T4 u4 hle hh (λi hi=>hz i (pE _ (u6.mem_iff.2 (jO _ hi)))) g hgm
end
def Fb{α:Type}(v:Value)(xs:List α):aB:=⟨λ_=>xs=[]->v=.slice none 0 0,λ_ h=>h⟩
def jL{α:Type}(E:Enc α)(v:Value)(xs:List α):OA:=⟨λw S=>(ap E v xs).p w S/\(xs=[]->v=.slice none 0 0),λa h hp=>⟨(ap E v xs).loc a h hp.1,hp.2⟩⟩
def qj{α:Type}(E:Enc α):Enc (List α):=⟨1,Value,λ_ v=>[v],λxs v=>[ai E v xs,Fb v xs],λ_ _=>rfl⟩
theorem Zn{α:Type}{E:Enc α}{v:Value}{xs:List α}:p9 (jL E v xs) [ai E v xs,Fb v xs]:=by
 intro w w' S hp hle hh hz f hf;rcases cK.1 hf with rfl|hf
 ·exact kE w w' S hp.1 hle hh hz _ (bC.2 rfl)
 ·rw[bC.1 hf];exact hp.2
theorem QO{α:Type}(E:Enc α)(v:Value)(xs:List α)(h:(xs=[]->v=.slice none 0 0)->R Q B w0 (ap E v xs::kl') F)(hk:aj (jL E v xs) kl kl':=by exact fE):R Q B w0 kl F:=λw s=>by
 obtain⟨S,⟨S1,S2,q1,q2,e⟩,h2,h3⟩:=(s.fC hk).own;exact h q1.2 w ⟨s.agree,s.le,s.dR,⟨S,⟨S1,S2,q1.1,q2,e⟩,h2,h3⟩,s.facts⟩
theorem QR{α:Type}(E:Enc α)(v:Value)(xs:List α)(hz:xs=[]->v=.slice none 0 0)(h:R Q B w0 (jL E v xs::kl') F)(hk:aj (ap E v xs) kl kl':=by exact fE):R Q B w0 kl F:=λw s=>
 h w ((s.fC hk).zA (A:=ap E v xs) λw S hp=>⟨hp,hz⟩)
theorem QS{α:Type}{E:Enc α}{v:Value}{xss:List (List α)}{w:Wd}(h:(ai (qj E) v xss).p w):(ai (aC E) v xss).p w:=by
 rcases h with h|⟨i,o,f,c,cells,h1,h2,h3⟩
 ·exact .inl h
 ·refine .inr ⟨i,o,f,c,cells,h1,h2,λk x hk=>?_⟩;obtain⟨y,q1,q2⟩:=h3 k x hk;exact⟨y,q1,λf hf=>q2 f (by rw[bC.1 hf];exact bF ..)⟩
theorem Ay{A A':OA}(e:A=A')(h:R Q B w0 (A'::kl') F)(hk:aj A kl kl':=by exact fE):R Q B w0 kl F:=by
 subst e;exact λw s=>h w (s.fC hk)
theorem St.Zo{α:Type}{E:Enc α}{v:Value}{aF:List (α×E.Y)}{w:Wd}(h0:0<aF.length)(hall:(vZ E aF).p w)(s:St B w0 (ar E v aF::kl') F w):St B w0 (ap E v (aF.map (·.1))::kl') F w:=by
 obtain⟨S,⟨S1,S2,q1,q2,e⟩,h2,h3⟩:=s.own;refine⟨s.agree,s.le,s.dR,⟨S,⟨S1,S2,?_,q2,e⟩,h2,h3⟩,s.facts⟩;rcases q1 with⟨h4,_⟩|⟨b,f,h4,h5,h6,h7⟩
 ·rw[h4]at h0;simp at h0
 ·refine .inr ⟨b,0,f,_,by rw[bT];exact h4,h5,h6,h7,by rw[CS,bT,eG],λk x hk=>?_⟩;rw[eX]at hk;cases hp:aF[k]? with
  |none=>rw[hp]at hk;cases hk
  |some p=>
   rw[hp]at hk;cases hk;exact⟨p.2,λj u hj=>by rw[eG];exact yg hp hj,λf hf=>hall p (bG hp) f hf⟩
end Go.Ideal
namespace Go.Ideal
variable {P:Program}
def JH{α:Type}(P:Program)(vals:α->List Value)(fe:α->List aB)(fn:Fn)(first cap:List Value)(F:List aB)(X:List α->Prop):Prop:=
 ∀(S:Type) (inv:S->List OA) (ok:List α->S->Prop) (step:S->α->S×Bool) (s0:S) (sD:Fn) (y1 y2:List Value) (F':List aB),ok [] s0->
  (∀vs s x rest,ok vs s->X (vs++x::rest)->(step s x).2=true->ok (vs++[x]) (step s x).1)->
  (∀vs s x rest,ok vs s->X (vs++x::rest)->aV P sD (y1++vals x) y2 (inv s) (fe x++F') (λ_:Unit=>.bool (step s x).2) (λ_=>inv (step s x).1) (λ_=>[]) (λ_=>True))->
  aV P fn (first++[.func sD ⟨y1⟩ ⟨y2⟩]) cap (inv s0) (F++F') (λ_:List α=>.tuple ⟨[]⟩) (λxs=>inv (fF step s0 xs)) (λ_=>[]) X
theorem aV.facts{Y:Type}{fn:Fn}{args cap:List Value}{kl:List OA}{F F2:List aB}{val:Y->Value}{kl':Y->List OA}{fs:Y->List aB}{pr:Y->Prop}(h:aV P fn args cap kl F val kl' fs pr)(hF:∀f∈F,f∈F2):aV P fn args cap kl F2 val kl' fs pr:=
 λB w s=>h B w ⟨s.agree,s.le,s.dR,s.own,λf hf=>s.facts f (hF f hf)⟩
section
variable {B:List Nat} {w0:Wd} {kl kl' aR:List OA} {F:List aB} {K:KO} {n:Nat} {l:List (Nat×Value)} {D:List Deferred} {pm:Option FrameMode} {ro:Option Nat}
theorem Zp{S α Z:Type}{f:Operand}{ps:List Tmp}{assign body:bK}{fn:Fn}{first captured:List Value}{vals:α->List Value}{fe:α->List aB}{F1:List aB}{X:List α->Prop}(step:S->α->S×Out)(inv:S->List OA)(ok:List α->S->Prop)(s0:S)(h0:ok [] s0)
 (hok:∀vs s x rest,ok vs s->X (vs++x::rest)->(step s x).2=.normal->ok (vs++[x]) (step s x).1) (hit:JH P vals fe fn first captured F1 X)
 (hf:ev l f=.func fn ⟨first⟩ ⟨captured⟩) (hps:ps.all (λp=>Nat.blt p n)=true) (hlen:∀x,ps.length=(vals x).length) (hk:aM (inv s0) kl aR) (hF:Sub F1 F) (iq:∀s x,xU (step s x).2)
 (l3:α->Z->List (Nat×Value)) (k3:α->Z->List OA)
 (ha:∀(s:S) (x:α) (lo:Nat) (o:bQ) B w0,R (λh=>EV P assign (act n ((ps.zip (vals x)).reverse++l) [] none (some lo)) h (Ar B w0 n (l3 x) lo o (λz=>k3 x z++inv s) (fe x++F))) B w0 (pt lo o::inv s) (fe x++F))
 (hb:∀(vs:List α) (s:S) (x:α) (rest:List α) (z:Z) (lo:Nat) (L:kX) B w0,ok vs s->X (vs++x::rest)->R (λh=>EV P body (act n (l3 x z) [] none (some lo)) h (xV B w0 lo L (λ_:Unit=>(step s x).2) (λ_=>inv (step s x).1) (λ_=>[]) (λ_=>True))) B w0 (pt lo (.loop (rZ L))::(k3 x z++inv s)) (fe x++F))
 (next:∀r xs,X xs->R (λh=>K (iy step s0 xs).2 (act n l ({target:=.collected r,args:= #[]}::D) pm none) h) B w0 (inv (iy step s0 xs).1++(pt r (.fU true)::aR)) F):
 R (λh=>EV P (.rangeFunc f ps assign body) (act n l D pm none) h K) B w0 kl F:=by
 refine PL (Y:=List α) (k1:=inv s0) (F1:=F1++F) (ER:=λ_=>.tuple ⟨[]⟩) (out:=λxs=>(iy step s0 xs).2) (k1':=λxs=>inv (iy step s0 xs).1) (fs:=λ_=>[]) (pr:=X) hf ?_ hk (hF.app (Sub.refl' F [])) (λr y hy=>next r y hy);intro lo r;have:=hit (S×Out) (λso=>pt lo (.loop (jW ⟨.ready,none,fM l,n,ps,assign,body,r⟩ so.2))::inv so.1) (λvs so=>so.2=.normal/\ok vs so.1) (λso x=>(step so.1 x,kH (step so.1 x).2)) (s0,.normal) (.yield lo) [] [] F ⟨rfl,h0⟩
  (λvs so x rest ho hx h=>by
    have h:kH (step so.1 x).2=true:=h;have hn:(step so.1 x).2=.normal:=by
     cases e:(step so.1 x).2 with
     |normal=>rfl
     |_=>rw[e]at h;cases h
    exact⟨hn,hok vs so.1 x rest ho.2 hx hn⟩)
  (λvs so x rest ho hx=>by
    obtain⟨s,o⟩:=so;obtain⟨hn,ho⟩:=ho;have hn:o=.normal:=hn;subst hn;exact Qo (Y:=Unit) (L:=⟨.ready,none,fM l,n,ps,assign,body,r⟩) (args:=vals x) (k1:=inv s) (out:=λ_=>(step s x).2) (k1':=λ_=>inv (step s x).1) (fs:=λ_=>[]) (pr:=λ_=>True) l (l3 x) (λz=>k3 x z++inv s) rfl rfl hps (hlen x)
     (λB w0=>ha s x lo _ B w0) (λz B w0=>hb vs s x rest z lo _ B w0 ho hx))
 have e:(λxs:List α=>pt lo (.loop (jW ⟨.ready,none,fM l,n,ps,assign,body,r⟩ (fF (λ(so:S×Out) x=>(step so.1 x,kH (step so.1 x).2)) (s0,.normal) xs).2))::inv (fF (λ(so:S×Out) x=>(step so.1 x,kH (step so.1 x).2)) (s0,.normal) xs).1)=λxs=>pt lo (.loop (jW ⟨.ready,none,fM l,n,ps,assign,body,r⟩ (iy step s0 xs).2))::inv (iy step s0 xs).1:=by
  funext xs
  rw[Jk]
 have h2:aV P fn (first++[.func (.yield lo) ⟨[]⟩ ⟨[]⟩]) captured (pt lo (.loop ⟨.ready,none,fM l,n,ps,assign,body,r⟩)::inv s0) (F1++F) (λ_:List α=>.tuple ⟨[]⟩) (λxs=>pt lo (.loop (jW ⟨.ready,none,fM l,n,ps,assign,body,r⟩ (fF (λ(so:S×Out) x=>(step so.1 x,kH (step so.1 x).2)) (s0,.normal) xs).2))::inv (fF (λ(so:S×Out) x=>(step so.1 x,kH (step so.1 x).2)) (s0,.normal) xs).1) (λ_=>[]) X:=this;rw[e]at h2;exact h2
theorem QT{S α Z:Type}{f:Operand}{ps:List Tmp}{assign body:bK}{fn:Fn}{first captured:List Value}{vals:α->List Value}{fe:α->List aB}{F1:List aB}{X:List α->Prop}(step:S->α->S×Out)(inv:S->List OA)(ok:List α->S->Prop)(s0:S)(l3:α->Z->List (Nat×Value))(k3:α->Z->List OA)(h0:ok [] s0)
 (hok:∀vs s x rest,ok vs s->X (vs++x::rest)->(step s x).2=.normal->ok (vs++[x]) (step s x).1) (hit:JH P vals fe fn first captured F1 X)
 (ha:∀(s:S) (x:α) (lo:Nat) (o:bQ) B w0,R (λh=>EV P assign (act n ((ps.zip (vals x)).reverse++l) [] none (some lo)) h (Ar B w0 n (l3 x) lo o (λz=>k3 x z++inv s) (fe x++F))) B w0 (pt lo o::inv s) (fe x++F))
 (hb:∀(vs:List α) (s:S) (x:α) (rest:List α) (z:Z) (lo:Nat) (L:kX) B w0,ok vs s->X (vs++x::rest)->R (λh=>EV P body (act n (l3 x z) [] none (some lo)) h (xV B w0 lo L (λ_:Unit=>(step s x).2) (λ_=>inv (step s x).1) (λ_=>[]) (λ_=>True))) B w0 (pt lo (.loop (rZ L))::(k3 x z++inv s)) (fe x++F))
 (next:∀r xs,X xs->R (λh=>K (iy step s0 xs).2 (act n l ({target:=.collected r,args:= #[]}::D) pm none) h) B w0 (inv (iy step s0 xs).1++(pt r (.fU true)::aR)) F)
 (iq:∀s x,xU (step s x).2)
 (hf:ev l f=.func fn ⟨first⟩ ⟨captured⟩:=by rfl) (hps:ps.all (λp=>Nat.blt p n)=true:=by rfl) (hlen:∀x,ps.length=(vals x).length:=by intro _;rfl)
 (hk:aM (inv s0) kl aR:=by exact kG) (hF:Sub F1 F:=by exact jV):
 R (λh=>EV P (.rangeFunc f ps assign body) (act n l D pm none) h K) B w0 kl F:=
 Zp step inv ok s0 h0 hok hit hf hps hlen hk hF iq l3 k3 ha hb next
end
section
variable {B:List Nat} {w0:Wd} {kl:List OA} {F:List aB}
theorem Zq{α:Type}(E:Enc α){v:Value}{xs:List α}{k:Nat}{x:α}{Q:IH->Prop}(n:Nat)(hn:E.n=n)(hx:xs[k]? =some x)
 (h:∀b o f c y,v=.slice (some ⟨b,o,some f⟩) xs.length c->R Q B w0 kl (dF b (o+k*n) (E.pat x y)::(E.fs x y++F))) (hf:ai E v xs∈F:=by exact um):R Q B w0 kl F:=λw s=>by
 subst hn;rcases s.facts _ hf with⟨h0,_⟩|⟨i,o,f,c,cells,⟨h1,_⟩,h2,h3⟩
 ·rw[h0]at hx;cases hx
 ·obtain⟨y,q1,q2⟩:=h3 k x hx;refine h i o f c y h1 w ⟨s.agree,s.le,s.dR,s.own,λg hg=>?_⟩;rcases cK.1 hg with rfl|hg
  ·exact⟨cells,h2,q1⟩
  ·rcases eZ.1 hg with hg|hg
   ·exact q2 g hg
   ·exact s.facts g hg
end
end Go.Ideal
namespace Go.Ideal
variable {P:Program} {B:List Nat} {w0:Wd} {kl kl' aR:List OA} {F:List aB} {K:KO} {ds:List Tmp} {rest:List bz} {n:Nat} {l:List (Nat×Value)} {D:List Deferred} {pm:Option FrameMode} {ro:Option Nat} {d:Nat} {g:Option (Tmp×Bool)}
end Go.Ideal
namespace Go.Ideal
open Go.RowKit Go.WideShapes Go.ChangeShapes
variable {P:Program}
def ql(n:Nat):Lay:=(List.range n).map λg=>(some ⟨g,0,0,0,0⟩,none)
theorem QU{n i:Nat}(h:i<n):(ql n)[i]? =some (some ⟨i,0,0,0,0⟩,none):=by
 unfold ql;rw[eX,DJ h];rfl
theorem Zr(n:Nat):(ql n).length=n:=by unfold ql;rw[bT,DR]
theorem Zt(xG:P.follows .mixedOrders=true){f:FuncId}(fn:Func)(hfn:P.funcs[f]? =some fn)(hbody:fn.body.isNone=false)(hname:(fn.name== "runtime.NumGoroutine")=false){args args':List Value}{L:Lay}{w:World}{v:Value}(Zu:gQ P (iN L))
 (hL:∀(i:Nat) g cs,L[i]? =some (some g,some cs)->zz L w g cs) (hargs:aH (iN L) args args') (hv:bD v=true)
 (hc:CALL P ⟨.func f,args,[],none⟩ (jg L) (λr pm h'=>pm=none/\r=.ok v/\Agree (jg L) h')):
 Calls P f ⟨args'⟩ w (λe w'=>e=.returned v/\Below w.heap.size w w'):=by
 have hM:=XD xG hc;have hW:WR P (iN L) (jg L) w:=XZ hL;obtain⟨nx,F0,n1,n2,n3⟩:=hM (iN L) w (.func f) args' [] Zu hW (.func f) hargs .nil;have hnx:nx=.enter f ⟨args'⟩:=by
  have hcall:(callFunc f ⟨args'⟩).run P w=.ok (.enter f ⟨args'⟩) w:=by
   simp only[callFunc,bM,run_program,bS,hfn,hname,hbody,rG,if_false,dG]
  have e:(⟨args'⟩:Array Value)++(⟨[]⟩:Array Value)=⟨args'⟩:=by apply Array.ext';simp
  have n1:(invoke (.fn (.func f) ⟨[]⟩) ⟨args'⟩).run P w=.ok nx w:=n1;simp only[invoke,e]at n1;rw[hcall]at n1;cases n1;rfl
 subst hnx;have ul:F0=Frame.enter P f ⟨args'⟩ .normal:=by
  have:entry P .normal (.enter f ⟨args'⟩)=some (Frame.enter P f ⟨args'⟩ .normal):=rfl;have n2:entry P .normal (.enter f ⟨args'⟩)=some F0:=n2;rw[this]at n2;exact(Option.some.inj n2).symm
 subst ul;intro cs;obtain⟨r,pm',h',β',w',r',cs1,q1,q2,q3,q4,q5,q6⟩:=n3 cs (by intro m hm;cases hm);obtain⟨hp,rfl,hag⟩:=q1;cases q5;cases q4 with
 | @ok v v' oI=>
   have:=oI.mq hv;subst this;rcases q6 with⟨f1,a1,F1,e1,e2,e3,e4,e5⟩|⟨⟨_,l,e1⟩,_⟩
   ·cases e1;refine⟨.returned v',w',F1,⟨rfl,?_⟩,e2,e3,?_⟩
    ·refine⟨q3.os,q3.tape,q3.output,q3.size,λk hk=>?_⟩;by_cases hx:∀i g,iN L i=some g->(jg L).get i≠none->g.b≠k
     ·exact q3.keep k hk hx
     ·have hx:∃i g,iN L i=some g/\(jg L).get i≠none/\g.b=k:=by
       apply Classical.byContradiction;intro hc;exact hx λi g hi hg hb=>hc ⟨i,g,hi,hg,hb⟩
      obtain⟨i,g,hi,hg,rfl⟩:=hx;have hin:=hW.dom i g hi;exact q3.oG i g (by rw[hag.low (bn _)];exact hin) hin hi hg hk
    ·obtain⟨t1,t2,fn,t3,t4⟩:=e5;exact⟨t1,t2,e4,fn,t3,t4⟩
   ·cases e1
section
variable {H:Type} {enc:TypeId×Value->H} {W:World}
theorem Zv(xG:P.follows .mixedOrders=true){f:FuncId}(fn:Func)(hfn:P.funcs[f]? =some fn)(hbody:fn.body.isNone=false)(hname:(fn.name== "runtime.NumGoroutine")=false){K:TypeId->Prop}
 (hK:∀t,K t->PlainT P K t) {ts:List TypeId} {vs:List Value} {ds:List (DataW H)} {ps:List MemPlace} (hT:∀t∈ts,K t) (hok:∀(j:Nat) t v,ts[j]? =some t->vs[j]? =some v->Value.okWide P W .any 0 t v)
 (hA:DataW.TrodAll enc P W 0 (λ_=>true) true ts vs ds ps)
 (Zw:∀(w:Wd) (vs':List Value),P.globals.size<=w.h.next->(∀i,i<w.h.next->w.z i)->vs'.length=vs.length->(∀(j:Nat) t v d,ts[j]? =some t->vs'[j]? =some v->ds[j]? =some d->vU P w t v d)->∃F,(∀f∈F,f.p w)/\dS P f vs' F (.bool true)):
 Calls P f ⟨vs⟩ W (λe w'=>e=.returned (.bool true)/\Below W.heap.size W w'):=by
 obtain⟨M,vs',h1,h2,h3⟩:=OB hK hT hok hA (ql P.globals.size);have hlG:=Zr P.globals.size;refine Zt xG fn hfn hbody hname (L:=ql P.globals.size++M) (args:=vs') (λg hg=>⟨⟨g,0,0,0,0⟩,?_,rfl,rfl⟩) (λi g cs hi=>?_) h1 rfl ?_
 ·unfold iN;rw[l9 (by omega),QU hg];rfl
 ·by_cases hlt:i<P.globals.size
  ·rw[l9 (by omega),QU hlt]at hi;cases hi
  ·exact h3 i g cs (by omega) hi
 have hlen:vs'.length=vs.length:=by
  have:∀{a b:List Value},aH (iN (ql P.globals.size++M)) a b->a.length=b.length:=by
   intro a;induction a with
   |nil=>intro b h;cases h;rfl
   |cons x a ih=>intro b h;cases h with|cons q r=>simp[ih r]
  exact this h1
 obtain⟨F,hF,hfn'⟩:=Zw (EP (ql P.globals.size++M)) vs' (by show _<=(ql P.globals.size++M).length;rw[fK];omega) (λi hi=>hi) hlen (λj t v d ht hv hd=>by
  obtain⟨v0,e,oI⟩:=Yz (ts:=ts) h1 j v hv;exact Yy rfl (h2 j t v d ht hv hd) oI (hok j t v0 ht e))
 have st:St [] (EP (ql P.globals.size++M)) [] F (EP (ql P.globals.size++M)):=⟨⟨bn _,λ_ _ _=>rfl,λ_ _=>rfl⟩,Wd.Le.refl _,λi _ hz=>.inl hz,⟨[],rfl,uS,λi hi=>by cases hi⟩,hF⟩
 refine .oK _ (hfn' [] (EP (ql P.globals.size++M)) st) ?_;rintro r pm h' ⟨rfl,w',y,rfl,s,rfl,_⟩;exact⟨rfl,rfl,⟨s.agree.next,λi hi=>s.agree.get i hi (by simp),λhl=>s.agree.low hl (by simp)⟩⟩
end
def Fe(n:Nat):aB:=⟨λw=>n<=w.h.next,λa h=>lF h a.next⟩
theorem Zx{f:FuncId}{v:Value}{n:Nat}(hs:∀h:IH,n<=h.next->CALL P ⟨.func f,[],[],none⟩ h (λr pm h'=>pm=none/\r=.ok v/\h'=h)):dS P f [] [Fe n] v:=λB w s=>
 .oK _ (hs w.h (s.facts (Fe n) (bC.2 rfl))) (by rintro r pm h' ⟨rfl,rfl,rfl⟩;exact⟨rfl,w,(),rfl,⟨s.agree,s.le,s.dR,s.own,λf h=>by cases h⟩,rfl,trivial⟩)
end Go.Ideal
namespace Go.Ideal
variable {P:Program}
def JI:Value->Bool
 | .tuple ⟨c::cs⟩=>bD c&&cs.all bD
 | .tuple _=>false
 |v=>bD v
theorem aH.QV{β:az}:∀{l:List Value},l.all bD=true->aH β l l
 |[],_=>.nil
 |v::l,h=>by
  rw[Bl,fB]at h;exact .cons (VR.free h.1) (aH.QV h.2)
theorem aH.JJ{β:az}:∀{l l':List Value},aH β l l'->l.all bD=true->l'=l
 |_,_,.nil,_=>rfl
 |_,_,.cons h1 h2,h=>by
  rw[Bl,fB]at h;rw[h1.mq h.1,aH.JJ h2 h.2]
theorem VR.Zy{β:az}{v:Value}(h:JI v=true):VR β v v:=by
 unfold JI at h;split at h
 ·rename_i c cs;exact .tuple (aH.QV (by rw[Bl];exact h))
 ·cases h
 ·exact VR.free h
