/-
  The ideal machine, 72: conversions between integers, shifts of unsigned ones; arrays of numbers as keys.
-/
import Derived.Test.YtoohgkkmdnbnfaaGreatDoorIdealNF
set_option linter.all false
namespace Go.Ideal
variable {P:Program}
theorem DZ{ρ:Operand->Value}{src dst:TypeId}{x:Operand}{kk k:IntKind}{n m:Int}{ds:TypeDesc}(hs:P.underlying src=some ds)(hd:P.underlying dst=some (.int k))(hx:ρ x=.int kk n)(hw:k.wrap n=m):Pu P ρ (.conv src dst x) (.int k m):=λh=>by
 have h1:dV P (convert src dst (.int kk n))=some (.int k m):=by
  unfold convert;rw[gT,ql hs];simp only[iL];rw[gT,ql hd];simp only[iL];rw[<- hw];rfl
 simp only[aC.run,hx,jX,h1];rfl
theorem Rt{a:Nat}(h:a<18446744073709551616):IntKind.u64.wrap (a:Int)=a:=by
 show(let m:=(a:Int)%(2^64:Int);if false&&m>=(2^63:Int)then m - (2^64:Int)else m)=_;simp only[Bool.false_and,tJ,if_false];rw[Int.emod_eq_of_lt (by omega) (by simpa using(by omega:(a:Int)<18446744073709551616))]
theorem Ru{ρ:Operand->Value}{x y:Operand}{t:TypeId}{a b:Nat}(hx:ρ x=.int .u64 (a:Int))(hy:ρ y=.int .u64 (b:Int))(hb:b<64):Pu P ρ (.bin .shr t x y) (.int .u64 ((a>>>b:Nat):Int)):=λh=>by
 have hv:dV P (binOp .shr t (.int .u64 (a:Int)) (.int .u64 (b:Int)))=some (.int .u64 ((a>>>b:Nat):Int)):=by
  show dV P (Op.shift .shr .u64 a .u64 b)=_;unfold Op.shift;rw[if_neg (by omega)];show some (Value.int .u64 ((a:Int).fdiv (2^(min (b:Int).toNat 64))))=_;rw[show min (b:Int).toNat 64=b by simp;omega,Vm];congr 2;rw[show((2:Int)^b)=((2^b:Nat):Int)by simp,Int.fdiv_eq_ediv_of_nonneg _ (Int.natCast_nonneg _)];simp
 have h1:jX P (do eqGuard .shr t x y (.int .u64 (a:Int)) (.int .u64 (b:Int));binOp .shr t (.int .u64 (a:Int)) (.int .u64 (b:Int)))=some (.int .u64 ((a>>>b:Nat):Int)):=by
  unfold jX;rw[gT,Bb (by intro c e;cases e) (by intro e;cases e)];simp only[iL,hv];rfl
 have h2:kW P .shr t x y (.int .u64 (a:Int)) (.int .u64 (b:Int))=some (.int .u64 ((a>>>b:Nat):Int)):=by
  unfold kW;have:(match qM .u64 .u64 with|true=>ol .shr .u64 (a:Int) (b:Int)|false=>none)=none:=rfl;simp only[qM,bQ,I8,cond];exact h1
 simp only[aC.run,hx,hy,h2]
theorem aa0{α:Type}[DecidableEq α]{aX:α->Value}{kt:TypeId}{d:TypeDesc}(hu:P.underlying kt=some d)(hn:∀a b,Instr.sameNow d (aX a) (aX b)=none)(he:∀a b,dV P (Op.equal kt (aX a) (aX b))=some (decide (a=b)))(a:α)(ai:List (α×Value))(es:List MapEntry)(h:nT aX ai es):qK P kt (aX a) es=some (nS a ai 0):=by
 have aa1:∀(ai:List (α×Value)) (es:List MapEntry) (i:Nat),nT aX ai es->dV P (Instr.findAsking kt (aX a) es i)=some (nS a ai i):=by
  intro ai;induction ai with
  |nil=>
   intro es i h;cases es with
   |nil=>rfl
   |cons e es=>cases h
  |cons p ai ih=>
   intro es i h;obtain⟨e,es',rfl,h1,h2,h3⟩:=Lf h;unfold Instr.findAsking;rw[gT,h1,he];simp only[iL];unfold nS;by_cases hab:a=p.1
   ·rw[dZ hab,if_pos hab,h2];rfl
   ·rw[aT hab,if_neg hab];exact ih es' (i+1) h3
 unfold qK Instr.findKey;rw[gT,ql hu];simp only[iL];cases ai with
 |nil=>
  cases es with
  |nil=>rfl
  |cons e es=>cases h
 |cons p ai=>
  have h':=h;obtain⟨e,es',rfl,h1,h2,h3⟩:=Lf h;have:Instr.findNow d (aX a) (e::es') 0=none:=by
   show(match Instr.sameNow d (aX a) e.key with
   |some true=>some (some (0,e.val))
   |some false=>Instr.findNow d (aX a) es' 1
   |none=>none)=_
   rw[h1,hn]
  rw[this];exact aa1 _ _ _ h'
abbrev zy:Int×Int->Value:=λp=>.agg ⟨[.int .i64 p.1,.int .i64 p.2]⟩
theorem aa2{kt e:TypeId}(hu:P.underlying kt=some (.array 2 e))(he:P.underlying e=some (.int .i64))(hs:P.info? e|>.map (·.size)|>(·=some 1))(hc:∀a b:Int,p9 P kt (.agg ⟨[.int .i64 a,.int .i64 b]⟩)=true):qo P kt zy where
 DR a:=hc a.1 a.2
 find a ai es h:=aa0 hu (λa b=>rfl) (λa b=>by
  have:=Rn (d:=9998) (xs:=[a.1,a.2]) (ys:=[b.1,b.2]) hu he hs rfl rfl;rw[show decide (a=b)=decide ([a.1,a.2]=[b.1,b.2])from og.2 ⟨λh=>by rw[h],λh=>by
   injection h with h1 h2;injection h2 with h2;exact Prod.ext h1 h2⟩]
  exact this) a ai es h
 same a:=by
  show((⟨[Value.int .i64 a.1,.int .i64 a.2]⟩:Array Value).size==(⟨[Value.int .i64 a.1,.int .i64 a.2]⟩:Array Value).size&&(List.zip [Value.int .i64 a.1,.int .i64 a.2] [Value.int .i64 a.1,.int .i64 a.2]).all λ(x,y)=>Instr.sameBits 9999 x y)=true;simp[Instr.sameBits]
end Go.Ideal
namespace Go.Ideal
section
variable {P:Program}
variable {ds:List Tmp} {rest:List bR} {n:Nat} {l:List (Nat×Value)} {D:List Deferred} {pm:Option FrameMode} {ro:Option Nat} {h:IH} {K:KO} {d:Nat} {g:Option (Tmp×Bool)}
theorem Rv{op:aC}{v:Value}{h':IH}{re:List gW}(hn:Nat.blt d n=true)(hg:bV l g=true)(hr:op.run P (ev l) h=some (v,h'))
 (hsm:∀q∈re,∃u h2,q.op.run P (ev ((d,v)::l)) h'=some (u,h2)/\∀d',q.dst=some d'->lk ((d,v)::l) d'=u)
 (next:aD P ds rest (act n ((d,v)::l) D pm ro) h' K):aD P ds (⟨⟨some d,g,op⟩,re⟩::rest) (act n l D pm ro) h K:=
 .kC (uk hg) v h' (by rw[mE];exact hr) (λq hq _=>by
  obtain⟨u,h2,e1,e2⟩:=hsm q hq;rw[oz hn];exact⟨u,h2,by rw[mE];exact e1,λd' hd=>by rw[<- e2 d' hd];exact sJ _ _⟩) (by rw[oz hn];exact next)
theorem aa3{re:List gW}{e:TypeId}{size bytes b o m k:Nat}{f:Option Nat}{s x:Operand}{old xs:List Value}(hn:Nat.blt d n=true)(hg:bV l g=true)
 (hs:ev l s=.slice (some ⟨b,o,f⟩) m m) (hx:ng (ev l x)=some (k+1)) (hxs:lH size (k+1) (ev l x) h=some xs) (hold:h.iC b o (m*size)=some old)
 (hf:f=some 0\/f=some size) (hm:(m+(k+1))*bytes<=1073741824/\(m+(k+1))*size<=1073741824/\m+(k+1)<=1073741824)
 (hsm:∀h',zb h h' b (.cells (old++xs))->∀q∈re,∃u h2,q.op.run P (ev ((d,.slice (some ⟨h.next,0,some size⟩) (m+(k+1)) (m+(k+1)))::l)) h'=some (u,h2)/\∀d',q.dst=some d'->lk ((d,.slice (some ⟨h.next,0,some size⟩) (m+(k+1)) (m+(k+1)))::l) d'=u)
 (next:∀h',zb h h' b (.cells (old++xs))->aD P ds rest (act n ((d,.slice (some ⟨h.next,0,some size⟩) (m+(k+1)) (m+(k+1)))::l) D pm ro) h' K):
 aD P ds (⟨⟨some d,g,.append e size bytes s x⟩,re⟩::rest) (act n l D pm ro) h K:=by
 have hle:∀{a b:Nat},a<=b->Nat.ble a b=true:=λh=>by rw[tH];exact h
 have hlt:Nat.ble (m+(k+1)) m=false:=by
  cases hb:Nat.ble (m+(k+1)) m with
  |false=>rfl
  |true=>have:=jN hb;omega
 have hc:(Nat.ble (Nat.mul (m+(k+1)) bytes) small&&Nat.ble (Nat.mul (m+(k+1)) size) small&&Nat.ble (m+(k+1)) small)=true:=by
  rw[hle (show Nat.mul (m+(k+1)) bytes<=small from hm.1),hle (show Nat.mul (m+(k+1)) size<=small from hm.2.1),hle (show m+(k+1)<=small from hm.2.2)];rfl
 have hrun:∃h',(aC.append e size bytes s x).run P (ev l) h=some (.slice (some ⟨h.next,0,some size⟩) (m+(k+1)) (m+(k+1)),h')/\zb h h' b (.cells (old++xs)):=by
  have ze:wQ size (k+1) (ev l x) h=some xs:=hxs;simp only[aC.run,hx,ze,hs,uS];have e1:lH size m (.slice (some ⟨b,o,f⟩) m m) h=some old:=hold;show∃h',(cond (Nat.ble (Nat.mul (m+(k+1)) bytes) small&&Nat.ble (Nat.mul (m+(k+1)) size) small&&Nat.ble (m+(k+1)) small) _ _)=_/\_;rw[hc];show∃h',(cond (Nat.ble (m+(k+1)) m) _ _)=_/\_;rw[hlt];simp only[cond,e1];rcases hf with rfl|rfl
  ·refine⟨_,rfl,?_⟩;exact⟨rfl,λi hi _=>by rw[IH.iO,if_neg (by omega)],⟨uJ _,by rw[IH.iO,if_pos rfl,iY]⟩,λ_=>rfl⟩
  ·cases size with
   |zero=>
    refine⟨_,rfl,?_⟩;exact⟨rfl,λi hi _=>by rw[IH.iO,if_neg (by omega)],⟨uJ _,by rw[IH.iO,if_pos rfl,iY]⟩,λ_=>rfl⟩
   |succ j=>
    have hj:Nat.beq (Nat.succ j) (j+1)=true:=Nat.beq_refl _;refine⟨(h.kill b).new (.cells (old++xs)),?_,?_⟩
    ·show cond (Nat.beq (Nat.succ j) (j+1)) _ _=_;rw[hj,iY];rfl
    ·exact⟨rfl,λi hi hb=>by rw[IH.iO,if_neg (by show i≠h.next;omega),IH.r9,if_neg hb],⟨uJ _,by rw[IH.iO];exact if_pos rfl⟩,λhl=>by rw[IH.Jt,IH.yV];omega⟩
 obtain⟨h',hr,hM⟩:=hrun;exact Rv hn hg hr (hsm h' hM) (next h' hM)
theorem aa4{re:List gW}{e:TypeId}{size bytes k c:Nat}{s x:Operand}{xs:List Value}(hn:Nat.blt d n=true)(hg:bV l g=true)
 (hs:ev l s=.slice none 0 0) (hx:ng (ev l x)=some (k+1)) (hxs:lH size (k+1) (ev l x) h=some xs)
 (hm:(k+1)*bytes<=1073741824/\(k+1)*size<=1073741824/\(k+1)<=1073741824)
 (hsm:∀h',Agree h h'->At h' h.next (.cells xs)->h'.next=h.next+1->∀q∈re,∃u h2,q.op.run P (ev ((d,.slice (some ⟨h.next,0,some size⟩) (k+1) (k+1))::l)) h'=some (u,h2)/\∀d',q.dst=some d'->lk ((d,.slice (some ⟨h.next,0,some size⟩) (k+1) (k+1))::l) d'=u)
 (next:∀h',Agree h h'->At h' h.next (.cells xs)->h'.next=h.next+1->aD P ds rest (act n ((d,.slice (some ⟨h.next,0,some size⟩) (k+1) (k+1))::l) D pm ro) h' K):
 aD P ds (⟨⟨some d,g,.append e size bytes s x⟩,re⟩::rest) (act n l D pm ro) h K:=by
 have hle:∀{a b:Nat},a<=b->Nat.ble a b=true:=λh=>by rw[tH];exact h
 have e0:Nat.add 0 (k+1)=k+1:=fw _;refine Rv hn hg (h':=h.new (.cells xs)) ?_ (hsm _ (KC _ _) (KD _ _) rfl) (next _ (KC _ _) (KD _ _) rfl);have ze:wQ size (k+1) (ev l x) h=some xs:=hxs;simp only[aC.run,hx,ze,hs,uS,e0];rw[hle (show Nat.mul (k+1) bytes<=small from hm.1),hle (show Nat.mul (k+1) size<=small from hm.2.1),hle (show k+1<=small from hm.2.2)];have e1:lH size 0 (.slice none 0 0) h=some []:=by
  show(match (0:Nat)with|0=>some ([]:List Value)|_=>none)=_;rfl
 have e2:Nat.ble (k+1) 0=false:=rfl;simp only[I8,cond_true,e2,cond_false,e1,iY,bY]
end
section
variable {P:Program}
variable {ρ:Operand->Value}
variable {B:List Nat} {w0:Wd} {kl kl':List OA} {F:List aF} {a:aW} {K:KO}
variable {y:di} {i j m0:Nat} {I:Nat->aW->IH->Prop} {ch:List PanicEntry}
variable {B:List Nat} {w0:Wd} {kl kl':List OA} {F:List aF} {K:KO} {ds:List Tmp} {rest:List bR} {n:Nat} {l:List (Nat×Value)} {D:List Deferred} {pm:Option FrameMode} {ro:Option Nat} {d:Nat} {g:Option (Tmp×Bool)}
theorem aa5{re:List gW}{α:Type}{E:Enc α}{e:TypeId}{size bytes b':Nat}{s x:Operand}{v:Value}{xs:List α}{a:α}{y:E.Y}{cs:List Value}{k1 k2:List OA}(hn:Nat.blt d n=true)(hg:bV l g=true)
 (hs:ev l s=v) (hx:ev l x=.slice (some ⟨b',0,some 0⟩) 1 1) (hk:ay (ap E v xs) kl k1) (hc:ay (pt b' (.cells cs)) k1 k2) (hp:cs=E.pat a y) (hF:Sub (E.fs a y) F) (hz:E.n=size)
 (hm:(xs.length+1)*bytes<=1073741824/\(xs.length+1)*size<=1073741824/\xs.length+1<=1073741824)
 (hsm:∀ad,Same P re (ev ((d,.slice ad (xs.length+1) (xs.length+1))::l)) ((d,.slice ad (xs.length+1) (xs.length+1))::l) B w0 (ap E (.slice ad (xs.length+1) (xs.length+1)) (xs++[a])::k2) F)
 (r:∀ad,R (λh=>aD P ds rest (act n ((d,.slice ad (xs.length+1) (xs.length+1))::l) D pm ro) h K) B w0 (ap E (.slice ad (xs.length+1) (xs.length+1)) (xs++[a])::k2) F):
 R (λh=>aD P ds (⟨⟨some d,g,.append e size bytes s x⟩,re⟩::rest) (act n l D pm ro) h K) B w0 kl F:=by
 intro w st;subst hp hz;have hlen:=E.len a y;have st2:St B w0 (ap E v xs::pt b' (.cells (E.pat a y))::k2) F w:=st.ji (.cons hk (.cons hc .nil));have hat:At w.h b' (.cells (E.pat a y)):=st2.at_ (.there .here);have lM:St B w0 (ap E v xs::k2) F w:=(st2.gF (.there .here)).tail;have hfs:∀f∈E.fs a y,f.p w:=λf hf=>st.facts f (hF.mem f hf);have hread:w.h.iC b' 0 (1*E.n)=some (E.pat a y):=by
  rw[hat.c.iC,nP,om,yG,yH,if_pos (by omega),<- hlen,bK]
 have hx1:ng (ev l x)=some (0+1):=by rw[hx];rfl
 have hx2:lH E.n (0+1) (ev l x) w.h=some (E.pat a y):=by rw[hx];exact hread
 -- what lies there afterwards
 have put:∀(w':Wd) (c:Nat) (f:Nat) (cells:List Value),cells.length=xs.length*E.n->(∀(k:Nat) z,xs[k]? =some z->∃y,(∀(j:Nat) u,(E.pat z y)[j]? =some u->cells[k*E.n+j]? =some u)/\∀f∈E.fs z y,f.p w')->(∀f∈E.fs a y,f.p w')->
  (f=0\/f=E.n)->∀S,(pt c (.cells (cells++E.pat a y))).p w' S->(ap E (.slice (some ⟨c,0,some f⟩) (xs.length+1) (xs.length+1)) (xs++[a])).p w' S:=by
  intro w' c f cells h1 h2 h3 h4 S hp;refine .inr ⟨c,0,f,_,by rw[gD];rfl,h4,hp.1,hp.2,by rw[gD,gD,h1,hlen,uL,pY,yG,fw],λk z hk=>?_⟩;by_cases hlt:k<xs.length
  ·rw[nN hlt]at hk;obtain⟨y',q1,q2⟩:=h2 k z hk;refine⟨y',λj u hj=>?_,q2⟩;rw[fw];have:=q1 j u hj;rw[nN (bN.1 this).1];exact this
  ·rw[qG (by omega)]at hk;have hk0:k=xs.length:=by
    have:=(bN.1 hk).1;simp at this;omega
   subst hk0;simp at hk;subst hk;refine⟨y,λj u hj=>?_,h3⟩;rw[fw,qG (by omega),h1,Jb];exact hj
 obtain⟨S,⟨S1,S2,q,q2,e1⟩,hnd,hown⟩:=lM.own;rcases q with⟨rfl,rfl,rfl⟩|⟨b,o,f,cells,rfl,hf,rfl,hb,hcl,hel⟩
 ·have key:∀h',Agree w.h h'->At h' w.h.next (.cells (E.pat a y))->h'.next=w.h.next+1->∃w':Wd,w'.h=h'/\St B w0 (ap E (.slice (some ⟨w.h.next,0,some E.n⟩) (([]:List α).length+1) (([]:List α).length+1)) ([]++[a])::k2) F w':=λh' ag vI hnx=>by
   obtain⟨w',rfl,jC⟩:=lM.tail.fresh ag vI hnx;refine⟨w',rfl,?_⟩;have hle:∀f∈E.fs a y,f.p w':=λf hf=>jC.facts f (hF.mem f hf);exact jC.xC λS hp=>put w' _ E.n [] (by simp) (λk z hk=>by cases hk) hle (.inr rfl) S hp
  refine aa4 (c:=0) hn hg hs hx1 hx2 (by simpa using hm) (λh' ag vI hnx=>?_) λh' ag vI hnx=>?_
  ·obtain⟨w',rfl,jC⟩:=key h' ag vI hnx;exact hsm _ w' jC
  ·obtain⟨w',rfl,jC⟩:=key h' ag vI hnx;exact r _ w' jC
 ·have xD:St B w0 (pt b (.cells cells)::k2) F w:=⟨lM.agree,lM.le,lM.fF,⟨S,⟨_,S2,⟨rfl,hb⟩,q2,e1⟩,hnd,hown⟩,lM.facts⟩
  have Dy:At w.h b (.cells cells):=xD.at_ .here;have key:∀h',zb w.h h' b (.cells (cells.drop o++E.pat a y))->∃w':Wd,w'.h=h'/\St B w0 (ap E (.slice (some ⟨w.h.next,0,some E.n⟩) (xs.length+1) (xs.length+1)) (xs++[a])::k2) F w':=λh' mv=>by
   obtain⟨w',rfl,jC,Ba⟩:=xD.move mv;refine⟨w',rfl,jC.xC λS hp=>?_⟩;have hle:∀f∈E.fs a y,f.p w':=λf hf=>jC.facts f (hF.mem f hf);refine put w' _ E.n (cells.drop o) (by rw[rR];omega) (λk z hk=>?_) hle (.inr rfl) S hp;obtain⟨y',u1,u2⟩:=hel k z hk;exact⟨y',λj u hj=>by rw[pX,<- nZ];exact u1 j u hj,λf hf=>f.mono Ba (u2 f hf)⟩
  refine aa3 (old:=cells.drop o) (xs:=E.pat a y) hn hg hs hx1 hx2 ?_ (hf.elim (λe=>.inl (by rw[e])) λe=>.inr (by rw[e])) hm (λh' mv=>?_) λh' mv=>?_
  ·have hdl:(cells.drop o).length=xs.length*E.n:=by rw[rR];omega
   rw[Dy.c.iC,nP,om,if_pos (by omega),<- hdl,bK]
  ·obtain⟨w',rfl,jC⟩:=key h' mv;exact hsm _ w' jC
  ·obtain⟨w',rfl,jC⟩:=key h' mv;exact r _ w' jC
end
section
variable {P:Program} {B:List Nat} {w0:Wd} {kl kl' bn:List OA} {F:List aF} {K:KO} {n:Nat} {l:List (Nat×Value)} {D:List Deferred} {pm:Option FrameMode} {ro:Option Nat}
theorem Rw{re:List gW}{α:Type}(E:Enc α){ds:List Tmp}{rest:List bR}{d:Nat}{g:Option (Tmp×Bool)}{e:TypeId}{size bytes b':Nat}{s x:Operand}{v:Value}{xs:List α}(a:α)(y:E.Y){cs:List Value}{k1 k2:List OA}
 (hm:(xs.length+1)*bytes<=1073741824/\(xs.length+1)*size<=1073741824/\xs.length+1<=1073741824)
 (next:∀ad,R (λh=>aD P ds rest (act n ((d,.slice ad (xs.length+1) (xs.length+1))::l) D pm ro) h K) B w0 (ap E (.slice ad (xs.length+1) (xs.length+1)) (xs++[a])::k2) F)
 (hn:Nat.blt d n=true:=by rfl) (hg:bV l g=true:=by rfl)
 (hs:ev l s=v:=by conv=>lhs;whnf) (hx:ev l x=.slice (some ⟨b',0,some 0⟩) 1 1:=by rfl) (hk:ay (ap E v xs) kl k1:=by exact gH) (hc:ay (pt b' (.cells cs)) k1 k2:=by exact gH) (hp:cs=E.pat a y:=by rfl) (hF:Sub (E.fs a y) F:=by exact kZ) (hz:E.n=size:=by rfl)
 (hsm:∀ad,Same P re (ev ((d,.slice ad (xs.length+1) (xs.length+1))::l)) ((d,.slice ad (xs.length+1) (xs.length+1))::l) B w0 (ap E (.slice ad (xs.length+1) (xs.length+1)) (xs++[a])::k2) F:=by intro _;repeat (first|exact Bc|refine Bd rfl (by repeat (first|with_reducible exact ay.here|with_reducible apply ay.there|with_reducible apply ay.app)) (by first|exact rfl|(conv=>lhs;whnf)) rfl ?_|refine DC rfl (by(repeat (first|with_reducible exact dL .. |with_reducible apply dI));first|done|fail) (by first|exact rfl|(conv=>lhs;whnf)) rfl ?_|refine DD rfl (by(repeat (first|with_reducible exact dL .. |with_reducible apply dI));first|done|fail) (by first|exact rfl|(conv=>lhs;whnf)) rfl ?_|refine DF rfl (by repeat (first|with_reducible exact ay.here|with_reducible apply ay.there|with_reducible apply ay.app)) (by first|exact rfl|(conv=>lhs;whnf)) rfl ?_|refine DI rfl (by(repeat (first|with_reducible exact dL .. |with_reducible apply dI));first|done|fail) (by first|exact rfl|(conv=>lhs;whnf)) rfl ?_|refine DJ rfl (by(repeat (first|with_reducible exact dL .. |with_reducible apply dI));first|done|fail) (by first|exact rfl|(conv=>lhs;whnf)) rfl ?_|refine Qu (by first|((with_reducible apply F8);(focus ((conv=>lhs;whnf);(first|done|fail))))|((with_reducible apply F9);(focus ((conv=>lhs;whnf);(first|done|fail))))|((with_reducible apply Gd);(focus exact rfl))|((with_reducible apply Gg);(focus exact rfl);(focus exact rfl))|((with_reducible apply Gh);(focus exact rfl);(focus exact rfl))|((with_reducible apply Gi);(focus exact rfl);(focus exact rfl))|((with_reducible apply Gj);(focus exact rfl);(focus exact rfl))|((with_reducible apply Gl);(focus exact rfl);(focus exact rfl))|((with_reducible apply Gm);(focus exact rfl);(focus exact rfl))|((with_reducible apply Gc);(focus exact rfl))|((with_reducible apply Ga);(focus exact rfl);(focus ((conv=>lhs;whnf);(first|done|fail))))|((with_reducible apply Gb);(focus exact rfl);(focus ((conv=>lhs;whnf);(first|done|fail))))|((with_reducible apply Gp);(focus exact rfl);(focus ((conv=>lhs;whnf);(first|done|fail))))|((with_reducible apply Gq);(focus exact rfl))|((with_reducible apply Gr);(focus exact rfl);(focus ((conv=>lhs;whnf);(first|done|fail))))|((with_reducible apply Gs);(focus exact rfl);(focus ((conv=>lhs;whnf);(first|done|fail))))|((with_reducible apply Gt);(focus ((conv=>lhs;whnf);(first|done|fail))))|((with_reducible apply Gu);(focus exact rfl))|((with_reducible apply Gv);(focus exact rfl))|((with_reducible apply Gw);(focus exact rfl))|with_reducible exact Gf|((with_reducible apply Gx);(focus exact rfl);(focus exact rfl);(focus exact rfl))|((with_reducible apply GL);(focus exact rfl);(focus exact rfl);(focus ((omega);(first|done|fail))))|((with_reducible apply Dx);(focus exact rfl);(focus exact rfl);(focus ((omega);(first|done|fail)));(focus ((omega);(first|done|fail))))|((with_reducible apply Gy);(focus exact rfl);(focus exact rfl);(focus ((omega);(first|done|fail)));(focus ((omega);(first|done|fail))))|((with_reducible apply A9);(focus exact rfl);(focus exact rfl);(focus ((omega);(first|done|fail)));(focus ((omega);(first|done|fail))))|((with_reducible apply Gn);(focus exact rfl);(focus exact rfl);(focus ((omega);(first|done|fail)));(focus ((omega);(first|done|fail))))|((with_reducible apply GD);(focus exact rfl);(focus exact rfl);(focus ((first|assumption|kernel_rfl);(first|done|fail))))|((with_reducible apply GG);(focus exact rfl);(focus exact rfl);(focus ((first|assumption|kernel_rfl);(first|done|fail))))|((with_reducible apply GH);(focus exact rfl);(focus exact rfl))|((with_reducible apply GI);(focus exact rfl);(focus exact rfl))|((with_reducible apply GJ);(focus exact rfl);(focus exact rfl);(focus ((omega);(first|done|fail)));(focus ((omega);(first|done|fail))))) rfl ?_)):
 R (λh=>aD P ds (⟨⟨some d,g,.append e size bytes s x⟩,re⟩::rest) (act n l D pm ro) h K) B w0 kl F:=
 aa5 hn hg hs hx hk hc hp hF hz hm hsm next
end
end Go.Ideal
namespace Go.Ideal
variable {P:Program}
section
variable {α κ:Type} [DecidableEq κ] {aX:κ->Value} {E:Enc α}
def mQ(E:Enc α):List (κ×Value)->List (κ×List α)->List OA
 |p::ai,q::m=>ap E p.2 q.2::mQ E ai m
 |_,_=>[]
def rA(E:Enc α)(n:κ):List (κ×Value)->List (κ×List α)->List OA
 |p::ai,q::m=>if n=p.1 then mQ E ai m else ap E p.2 q.2::rA E n ai m
 |_,_=>[]
def D5(aX:κ->Value)(E:Enc α)(b:Nat)(m:List (κ×List α)):OA:=
 ⟨λw S=>∃ai:List (κ×Value),ai.map (·.1)=m.map (·.1)/\eX w (gI aX b ai::mQ E ai m) S,λa h ⟨ai,h1,h2⟩=>⟨ai,h1,eX.loc a h h2⟩⟩
def Rx(E:Enc α)(n:κ)(ai:List (κ×Value))(m:List (κ×List α)):OA:=⟨λw S=>eX w (rA E n ai m) S,λa h hp=>eX.loc a h hp⟩
def Ry(E:Enc α)(ai:List (κ×Value))(m:List (κ×List α)):OA:=⟨λw S=>eX w (mQ E ai m) S,λa h hp=>eX.loc a h hp⟩
def Rz(E:Enc α)(ai:List (κ×Value))(m:List (κ×List α)):aF:=
 ⟨λw=>∀n v xs,dB n ai=some v->dB n m=some xs->(ah E v xs).p w,λa h n v xs h1 h2=>(ah E v xs).mono a (h n v xs h1 h2)⟩
theorem Lu{β γ:Type}{n:κ}:∀{ai:List (κ×β)} {m:List (κ×γ)},ai.map (·.1)=m.map (·.1)->(dB n ai=none↔dB n m=none)
 |[],[],_=>⟨λ_=>rfl,λ_=>rfl⟩
 |(a,u)::ai,(b,x)::m,h=>by
  rw[gN,gN]at h;injection h with h1 h2;have h1:a=b:=h1;subst h1;unfold dB;by_cases e:n=a
  ·rw[if_pos e,if_pos e];exact⟨λh=>(nomatch h),λh=>(nomatch h)⟩
  ·rw[if_neg e,if_neg e];exact Lu h2
 |[],_::_,h=>by cases h
 |_::_,[],h=>by cases h
theorem RA{n:κ}:∀{ai:List (κ×Value)} {m:List (κ×List α)},dB n ai=none->rA E n ai m=mQ E ai m
 |[],_,_=>by unfold rA mQ;rfl
 |_::_,[],_=>by unfold rA mQ;rfl
 |(a,u)::ai,(b,x)::m,h=>by
  unfold dB at h;by_cases e:n=a
  ·rw[if_pos e]at h;cases h
  ·rw[if_neg e]at h;unfold rA mQ;rw[if_neg e,RA h]
theorem Lv{n:κ}{v:Value}{xs:List α}:∀{ai:List (κ×Value)} {m:List (κ×List α)},ai.map (·.1)=m.map (·.1)->dB n ai=some v->dB n m=some xs->ay (ap E v xs) (mQ E ai m) (rA E n ai m)
 |[],_,_,h,_=>by cases h
 |_::_,[],h,_,_=>by cases h
 |(a,u)::ai,(b,x)::m,h,h1,h2=>by
  rw[gN,gN]at h;injection h with e1 e2;have e1:a=b:=e1;subst e1;unfold dB at h1 h2;unfold mQ rA;by_cases e:n=a
  ·rw[if_pos e]at h1 h2⊢;cases h1;cases h2;exact .here
  ·rw[if_neg e]at h1 h2⊢;exact .there (Lv e2 h1 h2)
theorem RB{n:κ}{v:Value}{xs:List α}:∀{ai:List (κ×Value)} {m:List (κ×List α)},ai.map (·.1)=m.map (·.1)->ay (ap E v xs) (mQ E (upd n v ai) (upd n xs m)) (rA E n ai m)
 |[],[],_=>by unfold upd rA mQ mQ;exact .here
 |[],_::_,h=>by cases h
 |_::_,[],h=>by cases h
 |(a,u)::ai,(b,x)::m,h=>by
  rw[gN,gN]at h;injection h with e1 e2;have e1:a=b:=e1;subst e1;unfold upd rA;by_cases e:n=a
  ·rw[if_pos e,if_pos e,if_pos e];rw[show mQ E ((n,v)::ai) ((n,xs)::m)=ap E v xs::mQ E ai m from rfl];exact .here
  ·rw[if_neg e,if_neg e,if_neg e];rw[show mQ E ((a,u)::upd n v ai) ((a,x)::upd n xs m)=ap E u x::mQ E (upd n v ai) (upd n xs m)from rfl];exact .there (RB e2)
theorem D6{β γ:Type}{n:κ}{v:β}{x:γ}:∀{ai:List (κ×β)} {m:List (κ×γ)},ai.map (·.1)=m.map (·.1)->(upd n v ai).map (·.1)=(upd n x m).map (·.1)
 |[],[],_=>rfl
 |[],_::_,h=>by cases h
 |_::_,[],h=>by cases h
 |(a,u)::ai,(b,y)::m,h=>by
  rw[gN,gN]at h;injection h with e1 e2;have e1:a=b:=e1;subst e1;unfold upd;by_cases e:n=a
  ·rw[if_pos e,if_pos e,gN,gN,e2]
  ·rw[if_neg e,if_neg e,gN,gN,D6 e2]
variable {B:List Nat} {w0:Wd} {kl kl' bn k1 k2:List OA} {F:List aF} {Q:IH->Prop} {b:Nat} {m:List (κ×List α)}
theorem aa6(E:Enc α)(h:R Q B w0 (D5 aX E b ([]:List (κ×List α))::kl') F)(hk:ay (gI aX b []) kl kl':=by exact gH):R Q B w0 kl F:=
 .perm (λw S hS=>by
  obtain⟨S',⟨T1,T2,u1,u2,e⟩,hp⟩:=hS.gF hk;exact⟨S',⟨T1,T2,⟨[],rfl,T1,[],u1,rfl,by simp⟩,u2,e⟩,hp⟩) h
theorem aa7(n:κ)(hk:ay (D5 aX E b m) kl kl':=by exact gH)
 (h:∀(ai:List (κ×Value)) (v:Value),ai.map (·.1)=m.map (·.1)->j3 false (.slice none 0 0) n ai=v->R Q B w0 (gI aX b ai::ap E v ((dB n m).getD [])::Rx E n ai m::kl') F):R Q B w0 kl F:=λw s=>by
 obtain⟨S,⟨S1,S2,⟨ai,hkeys,T1,T2,u1,u2,e1⟩,q2,e⟩,hnd,hall⟩:=(s.gF hk).own;have key:∃T',eX w (ap E (j3 false (.slice none 0 0) n ai) ((dB n m).getD [])::rA E n ai m) T'/\T2.Perm T':=by
  cases hl:dB n ai with
  |none=>
   have hm:=(Lu (n:=n) hkeys).1 hl;have e1:j3 false (.slice none 0 0) n ai=.slice none 0 0:=by unfold j3;rw[hl];rfl
   rw[e1,hm,RA hl];exact⟨T2,⟨[],T2,.inl ⟨rfl,rfl,rfl⟩,u2,rfl⟩,.refl _⟩
  |some v=>
   cases hm:dB n m with
   |none=>rw[(Lu (n:=n) hkeys).2 hm]at hl;cases hl
   |some xs=>
    have e1:j3 false (.slice none 0 0) n ai=v:=by unfold j3;rw[hl];rfl
    rw[e1];exact u2.gF (Lv hkeys hl hm)
 obtain⟨T',⟨T3,T4,u3,u4,e3⟩,hp⟩:=key;subst e e1 e3;have hperm:((T1++T2)++S2).Perm (T1++(T3++(T4++S2))):=by
  rw[fq];refine List.Perm.append_left T1 ?_;rw[<- fq];exact List.Perm.append_right S2 hp
 exact h ai _ hkeys rfl w ⟨s.agree,s.le,s.fF,⟨_,⟨T1,_,u1,⟨T3,_,u3,⟨T4,S2,u4,q2,rfl⟩,rfl⟩,rfl⟩,hperm.nodup hnd,λi hi=>hall i (hperm.mem_iff.2 hi)⟩,s.facts⟩
theorem aa8(n:κ){ai:List (κ×Value)}{v:Value}{xs:List α}(hkeys:ai.map (·.1)=m.map (·.1))(h:R Q B w0 (D5 aX E b (upd n xs m)::bn) F)
 (h1:ay (gI aX b (upd n v ai)) kl k1:=by exact gH) (h2:ay (ap E v xs) k1 k2:=by exact gH) (h3:ay (Rx E n ai m) k2 bn:=by exact gH):R Q B w0 kl F:=
 .perm (λw S hS=>by
  obtain⟨S1,S2,q1,q2,hp⟩:=hS.ji (.cons h1 (.cons h2 (.cons h3 .nil)));obtain⟨T1,U1,u1,⟨T2,U2,u2,⟨T3,U3,u3,u4,e3⟩,e2⟩,e1⟩:=q1;have u4:U3=[]:=u4;subst u4 e3 e2 e1;obtain⟨V,v1,v2⟩:=eX.K7 (RB (E:=E) (n:=n) (v:=v) (xs:=xs) hkeys) (S:=T2++T3) (w:=w) ⟨T2,T3,u2,u3,rfl⟩;refine⟨(T1++V)++S2,⟨T1++V,S2,⟨upd n v ai,D6 hkeys,⟨T1,V,u1,v1,rfl⟩⟩,q2,rfl⟩,hp.trans ?_⟩;rw[gK];exact List.Perm.append_right S2 (List.Perm.append_left T1 v2)) h
theorem aa9(h:∀ai:List (κ×Value),ai.map (·.1)=m.map (·.1)->R Q B w0 (gI aX b ai::Ry E ai m::kl') F)(hk:ay (D5 aX E b m) kl kl':=by exact gH):R Q B w0 kl F:=λw s=>by
 obtain⟨S,⟨S1,S2,⟨ai,hkeys,T1,T2,u1,u2,e1⟩,q2,e⟩,hnd,hall⟩:=(s.gF hk).own;subst e e1;refine h ai hkeys w ⟨s.agree,s.le,s.fF,⟨T1++(T2++S2),⟨T1,_,u1,⟨T2,S2,u2,q2,rfl⟩,rfl⟩,?_,λi hi=>hall i ?_⟩,s.facts⟩
 ·rw[<- fq];exact hnd
 ·rw[fq];exact hi
theorem aba{ai:List (κ×Value)}(hkeys:ai.map (·.1)=m.map (·.1)):qZ (Ry E ai m) [Rz E ai m]:=by
 intro w w' S hS hle hh hz f hf;rw[bH.1 hf];have hS:eX w (mQ E ai m) S:=hS;clear hf;intro n v xs h1 h2;obtain⟨S',⟨T1,T2,u1,_,e⟩,hp⟩:=hS.gF (Lv hkeys h1 h2);subst e;exact gy w w' T1 u1 hle hh (λi hi=>hz i (hp.mem_iff.2 (kv _ hi))) _ (bH.2 rfl)
end
end Go.Ideal
namespace Go.Ideal
variable {P:Program} {B:List Nat} {w0:Wd} {kl kl' bn:List OA} {F:List aF} {K:KO} {ds:List Tmp} {rest:List bR} {n:Nat} {l:List (Nat×Value)} {D:List Deferred} {pm:Option FrameMode} {ro:Option Nat} {d:Nat} {g:Option (Tmp×Bool)}
theorem G9{α:Type}(E:Enc α){x i:Operand}{v:Value}{xss:List (List α)}(k:Nat)(xs:List α){kk:IntKind}{d2:Nat}{g2:Option (Tmp×Bool)}(hz:xss[k]? =some xs)
 (next:∀b o u,R (λh=>aD P ds rest (act n ((d2,u)::(d,.pointer (some ⟨b,o,none⟩))::l) D pm ro) h K) B w0 kl (ah E u xs::F))
 (hn:Nat.blt d n=true:=by rfl) (hg:bV l g=true:=by rfl) (hn2:Nat.blt d2 n=true:=by rfl) (hg2:∀u,bV ((d,u)::l) g2=true:=by intro _;rfl) (hx:ev l x=v:=by conv=>lhs;whnf) (hi:ev l i=.int kk (k:Int):=by rfl)
 (hk:ay (ap (aj E) v xss) kl kl':=by exact gH):
 R (λh=>aD P ds (⟨⟨some d,g,.mJ 1 x i⟩,[]⟩::⟨⟨some d2,g2,.gJ (.tmp d)⟩,[]⟩::rest) (act n l D pm ro) h K) B w0 kl F:=by
 intro w s;have s1:=s.gF hk;obtain⟨S,⟨S1,S2,p,p2,e⟩,h2,h3⟩:=s1.own;have hlt:=(bN.1 hz).1;rcases p with⟨h,_⟩|⟨b,o,f,cells,e1,hf,e2,hb,hcl,hel⟩
 ·rw[h]at hz;cases hz
 ·subst e1;obtain⟨y,u1,u2⟩:=hel k xs hz;have hc:cells[o+(k:Int).toNat*1]? =some y:=by
   have:=u1 0 y rfl;simpa[aj]using this
  refine KH hn hg hx hi (by omega) (by omega) ?_;have hbS:b∈S:=by rw[e,e2];simp
  refine FZ hn2 (hg2 _) (by show lk _ d=_;simp[lk]) ⟨(h3 b hbS).2.1,hb⟩ hc (next _ _ y w ⟨s.agree,s.le,s.fF,s.own,λf hf=>?_⟩);rcases dD.1 hf with rfl|hf
  ·exact u2 _ (bH.2 rfl)
  ·exact s.facts f hf
end Go.Ideal
namespace Go.Ideal
variable {P:Program} {B:List Nat} {w0:Wd} {kl kl' bn k1 k2:List OA} {F:List aF} {Q:IH->Prop}
section
variable {β:Type} (A:Value->β->OA)
def rC(vs:List Value)(xss:List β):List OA:=(vs.zip xss).map λp=>A p.1 p.2
def mR(b:Nat)(xss:List β):OA:=
 ⟨λw S=>∃vs:List Value,vs.length=xss.length/\eX w (pt b (.cells vs)::rC A vs xss) S,λa h ⟨vs,h1,h2⟩=>⟨vs,h1,eX.loc a h h2⟩⟩
def RD(vs:List Value)(xss:List β)(k:Nat):OA:=
 ⟨λw S=>eX w ((rC A vs xss).eraseIdx k) S,λa h hp=>eX.loc a h hp⟩
theorem RG{vs:List Value}{xss:List β}{k:Nat}{v:Value}{xs:β}(hv:vs[k]? =some v)(hx:xss[k]? =some xs):(rC A vs xss)[k]? =some (A v xs):=by
 simp[rC,List.zip,fo,List.getElem?_zipWith,hv,hx]
theorem RH{b:Nat}{xss:List β}{k:Nat}{xs:β}(hx:xss[k]? =some xs)(hk:ay (mR A b xss) kl kl':=by exact gH)
 (h:∀(vs:List Value) (v:Value),vs.length=xss.length->vs[k]? =some v->R Q B w0 (pt b (.cells vs)::A v xs::RD A vs xss k::kl') F):R Q B w0 kl F:=λw s=>by
 obtain⟨S,⟨S1,S2,⟨vs,h1,h2⟩,q2,e⟩,hnd,hall⟩:=(s.gF hk).own;subst e;have hlt:=(bN.1 hx).1;have hv:vs[k]? =some (vs[k]'(by omega)):=cz (by omega);refine h vs _ h1 hv w ?_;have hg:(rC A vs xss)[k]? =some (A (vs[k]'(by omega)) xs):=RG A hv hx;obtain⟨T1,T2,u1,u2,e⟩:=h2;obtain⟨T3,⟨T4,T5,u4,u5,e5⟩,u6⟩:=u2.gF (ay.at hg);subst e5 e;have hperm:((T1++T2)++S2).Perm (T1++(T4++(T5++S2))):=by
  rw[fq];refine List.Perm.append_left T1 ?_;rw[<- fq];exact List.Perm.append_right S2 u6
 exact⟨s.agree,s.le,s.fF,⟨T1++(T4++(T5++S2)),⟨T1,_,u1,⟨T4,_,u4,⟨T5,S2,u5,q2,rfl⟩,rfl⟩,rfl⟩,hperm.nodup hnd,λi hi=>hall i (hperm.mem_iff.2 hi)⟩,s.facts⟩
theorem abb{vs:List Value}{xss:List β}{k:Nat}{v:Value}{xs:β}:rC A (vs.set k v) (xss.set k xs)=(rC A vs xss).set k (A v xs):=by
 apply ku;intro j;simp only[rC,fo,uM,List.zip,List.getElem?_zipWith];by_cases e:k=j
 ·subst e;by_cases h1:k<vs.length
  ·by_cases h2:k<xss.length
   ·simp[h1,h2];omega
   ·simp[h1,h2];omega
  ·simp[h1];omega
 ·simp[e]
theorem RI{b:Nat}{xss:List β}{vs:List Value}{k:Nat}{v:Value}{xs:β}(hlen:vs.length=xss.length)(hk:k<xss.length)(h1:ay (pt b (.cells (vs.set k v))) kl k1:=by exact gH)
 (h2:ay (A v xs) k1 k2:=by exact gH) (h3:ay (RD A vs xss k) k2 bn:=by exact gH) (h:R Q B w0 (mR A b (xss.set k xs)::bn) F):R Q B w0 kl F:=
 .perm (λw S hS=>by
  obtain⟨S1,S2,q1,q2,hp⟩:=hS.ji (.cons h1 (.cons h2 (.cons h3 .nil)));obtain⟨T1,U1,u1,⟨T2,U2,u2,⟨T3,U3,u3,u4,e3⟩,e2⟩,e1⟩:=q1;have u4:U3=[]:=u4;subst u4 e3 e2 e1;have hl:((rC A vs xss).set k (A v xs))[k]? =some (A v xs):=by
   rw[uM,if_pos rfl,if_pos (by simp[rC];omega)]
  obtain⟨V,v1,v2⟩:=eX.K7 (ay.at hl) (S:=T2++T3) (w:=w) ⟨T2,T3,u2,by rw[QH];exact u3,rfl⟩;refine⟨(T1++V)++S2,⟨T1++V,S2,⟨vs.set k v,by simp[hlen],⟨T1,V,u1,by rw[abb];exact v1,rfl⟩⟩,q2,rfl⟩,hp.trans ?_⟩;rw[gK];exact List.Perm.append_right S2 (List.Perm.append_left T1 v2)) h
theorem abd{b m:Nat}{v0:Value}{x0:β}(h0:∀w,(A v0 x0).p w [])(hk:ay (pt b (.cells (List.replicate m v0))) kl kl':=by exact gH)(h:R Q B w0 (mR A b (List.replicate m x0)::kl') F):R Q B w0 kl F:=
 .perm (λw S hS=>by
  obtain⟨S',⟨T1,T2,u1,u2,e⟩,hp⟩:=hS.gF hk;refine⟨S',⟨T1,T2,⟨List.replicate m v0,by simp,⟨T1,[],u1,?_,by simp⟩⟩,u2,e⟩,hp⟩;have:∀m,eX w (rC A (List.replicate m v0) (List.replicate m x0)) []:=by
   intro m;induction m with
   |zero=>rfl
   |succ m ih=>exact⟨[],[],h0 w,ih,rfl⟩
  exact this m) h
theorem abe{E:Enc β}{b c:Nat}{xss:List β}(fv:Value->E.Y)(hn:E.n=1)(hpat:∀x v,E.pat x (fv v)=[v])(hA:∀v xs,qZ (A v xs) (E.fs xs (fv v)))(hc:xss.length<=c:=by first|exact bP _|omega):qZ (mR A b xss) [ah E (.slice (some ⟨b,0,some 0⟩) xss.length c) xss]:=by
 intro w w' S ⟨vs,hlen,T1,T2,⟨h1,h2⟩,u2,e⟩ hle hh hz f hf;subst e;rw[bH.1 hf];refine .inr ⟨b,0,0,c,vs,⟨rfl,hc,.inl rfl⟩,⟨hz b (by rw[h1];simp),.inl (by rw[hh];exact h2)⟩,λk xs hk=>?_⟩;have hlt:=(bN.1 hk).1;have hv:vs[k]? =some (vs[k]'(by omega)):=cz (by omega);have hg:(rC A vs xss)[k]? =some (A (vs[k]'(by omega)) xs):=RG A hv hk;obtain⟨T3,⟨T4,T5,u4,u5,e5⟩,u6⟩:=u2.gF (ay.at hg);subst e5;refine⟨fv (vs[k]'(by omega)),λj u hj=>?_,λg hgm=>?_⟩
 ·rw[hpat]at hj;match j,hj with
  |0,hj=>
   cases hj;show vs[0+k*E.n+0]? =_;rw[hn];simp
 ·exact hA _ _ w w' T4 u4 hle hh (λi hi=>hz i (oP _ (u6.mem_iff.2 (kv _ hi)))) g hgm
end
def He{α:Type}(v:Value)(xs:List α):aF:=⟨λ_=>xs=[]->v=.slice none 0 0,λ_ h=>h⟩
def kF{α:Type}(E:Enc α)(v:Value)(xs:List α):OA:=⟨λw S=>(ap E v xs).p w S/\(xs=[]->v=.slice none 0 0),λa h hp=>⟨(ap E v xs).loc a h hp.1,hp.2⟩⟩
def rD{α:Type}(E:Enc α):Enc (List α):=⟨1,Value,λ_ v=>[v],λxs v=>[ah E v xs,He v xs],λ_ _=>rfl⟩
theorem abf{α:Type}{E:Enc α}{v:Value}{xs:List α}:qZ (kF E v xs) [ah E v xs,He v xs]:=by
 intro w w' S hp hle hh hz f hf;rcases dD.1 hf with rfl|hf
 ·exact gy w w' S hp.1 hle hh hz _ (bH.2 rfl)
 ·rw[bH.1 hf];exact hp.2
theorem RJ{α:Type}(E:Enc α)(v:Value)(xs:List α)(h:(xs=[]->v=.slice none 0 0)->R Q B w0 (ap E v xs::kl') F)(hk:ay (kF E v xs) kl kl':=by exact gH):R Q B w0 kl F:=λw s=>by
 obtain⟨S,⟨S1,S2,q1,q2,e⟩,h2,h3⟩:=(s.gF hk).own;exact h q1.2 w ⟨s.agree,s.le,s.fF,⟨S,⟨S1,S2,q1.1,q2,e⟩,h2,h3⟩,s.facts⟩
theorem RN{α:Type}(E:Enc α)(v:Value)(xs:List α)(hz:xs=[]->v=.slice none 0 0)(h:R Q B w0 (kF E v xs::kl') F)(hk:ay (ap E v xs) kl kl':=by exact gH):R Q B w0 kl F:=λw s=>
 h w ((s.gF hk).A7 (A:=ap E v xs) λw S hp=>⟨hp,hz⟩)
theorem RO{α:Type}{E:Enc α}{v:Value}{xss:List (List α)}{w:Wd}(h:(ah (rD E) v xss).p w):(ah (aj E) v xss).p w:=by
 rcases h with h|⟨i,o,f,c,cells,h1,h2,h3⟩
 ·exact .inl h
 ·refine .inr ⟨i,o,f,c,cells,h1,h2,λk x hk=>?_⟩;obtain⟨y,q1,q2⟩:=h3 k x hk;exact⟨y,q1,λf hf=>q2 f (by rw[bH.1 hf];exact dL ..)⟩
theorem Bu{A A':OA}(e:A=A')(h:R Q B w0 (A'::kl') F)(hk:ay A kl kl':=by exact gH):R Q B w0 kl F:=by
 subst e;exact λw s=>h w (s.gF hk)
theorem St.RP{α:Type}{E:Enc α}{v:Value}{aJ:List (α×E.Y)}{w:Wd}(h0:0<aJ.length)(hall:(vP E aJ).p w)(s:St B w0 (ar E v aJ::kl') F w):St B w0 (ap E v (aJ.map (·.1))::kl') F w:=by
 obtain⟨S,⟨S1,S2,q1,q2,e⟩,h2,h3⟩:=s.own;refine⟨s.agree,s.le,s.fF,⟨S,⟨S1,S2,?_,q2,e⟩,h2,h3⟩,s.facts⟩;rcases q1 with⟨h4,_⟩|⟨b,f,h4,h5,h6,h7⟩
 ·rw[h4]at h0;simp at h0
 ·refine .inr ⟨b,0,f,_,by rw[bU];exact h4,h5,h6,h7,by rw[DW,bU,fw],λk x hk=>?_⟩;rw[fo]at hk;cases hp:aJ[k]? with
  |none=>rw[hp]at hk;cases hk
  |some p=>
   rw[hp]at hk;cases hk;exact⟨p.2,λj u hj=>by rw[fw];exact zx hp hj,λf hf=>hall p (bI hp) f hf⟩
theorem abg{α:Type}{E:Enc α}{v:Value}{aJ:List (α×E.Y)}(h0:0<aJ.length)(h:R Q B w0 (ap E v (aJ.map (·.1))::kl') F)(hfs:∀w,(∀f∈F,f.p w)->(vP E aJ).p w)(hk:ay (ar E v aJ) kl kl':=by exact gH):R Q B w0 kl F:=λw s=>
 h w (St.RP h0 (hfs w s.facts) (s.gF hk))
end Go.Ideal
namespace Go.Ideal
variable {P:Program}
def Lx{α:Type}(P:Program)(vals:α->List Value)(fe:α->List aF)(fn:Fn)(first cap:List Value)(F:List aF)(X:List α->Prop):Prop:=
 ∀(S:Type) (inv:S->List OA) (ok:List α->S->Prop) (step:S->α->S×Bool) (s0:S) (uq:Fn) (y1 y2:List Value) (F':List aF),ok [] s0->
  (∀vs s x rest,ok vs s->X (vs++x::rest)->(step s x).2=true->ok (vs++[x]) (step s x).1)->
  (∀vs s x rest,ok vs s->X (vs++x::rest)->bz P uq (y1++vals x) y2 (inv s) (fe x++F') (λ_:Unit=>.bool (step s x).2) (λ_=>inv (step s x).1) (λ_=>[]) (λ_=>True))->
  bz P fn (first++[.func uq ⟨y1⟩ ⟨y2⟩]) cap (inv s0) (F++F') (λ_:List α=>.tuple ⟨[]⟩) (λxs=>inv (gM step s0 xs)) (λ_=>[]) X
theorem bz.facts{Y:Type}{fn:Fn}{args cap:List Value}{kl:List OA}{F F2:List aF}{val:Y->Value}{kl':Y->List OA}{fs:Y->List aF}{pr:Y->Prop}(h:bz P fn args cap kl F val kl' fs pr)(hF:∀f∈F,f∈F2):bz P fn args cap kl F2 val kl' fs pr:=
 λB w s=>h B w ⟨s.agree,s.le,s.fF,s.own,λf hf=>s.facts f (hF f hf)⟩
section
variable {B:List Nat} {w0:Wd} {kl kl' bn:List OA} {F:List aF} {K:KO} {n:Nat} {l:List (Nat×Value)} {D:List Deferred} {pm:Option FrameMode} {ro:Option Nat}
theorem abh{S α Z:Type}{f:Operand}{ps:List Tmp}{assign body:di}{fn:Fn}{first captured:List Value}{vals:α->List Value}{fe:α->List aF}{F1:List aF}{X:List α->Prop}(step:S->α->S×Out)(inv:S->List OA)(ok:List α->S->Prop)(s0:S)(h0:ok [] s0)
 (hok:∀vs s x rest,ok vs s->X (vs++x::rest)->(step s x).2=.normal->ok (vs++[x]) (step s x).1) (hit:Lx P vals fe fn first captured F1 X)
 (hf:ev l f=.func fn ⟨first⟩ ⟨captured⟩) (hps:ps.all (λp=>Nat.blt p n)=true) (hlen:∀x,ps.length=(vals x).length) (hk:aH (inv s0) kl bn) (hF:Sub F1 F) (ja:∀s x,zi (step s x).2)
 (l3:α->Z->List (Nat×Value)) (k3:α->Z->List OA)
 (ha:∀(s:S) (x:α) (lo:Nat) (o:dx) B w0,R (λh=>EV P assign (act n ((ps.zip (vals x)).reverse++l) [] none (some lo)) h (Bo B w0 n (l3 x) lo o (λz=>k3 x z++inv s) (fe x++F))) B w0 (pt lo o::inv s) (fe x++F))
 (hb:∀(vs:List α) (s:S) (x:α) (rest:List α) (z:Z) (lo:Nat) (L:mK) B w0,ok vs s->X (vs++x::rest)->R (λh=>EV P body (act n (l3 x z) [] none (some lo)) h (zk B w0 lo L (λ_:Unit=>(step s x).2) (λ_=>inv (step s x).1) (λ_=>[]) (λ_=>True))) B w0 (pt lo (.loop (ul L))::(k3 x z++inv s)) (fe x++F))
 (next:∀r xs,X xs->R (λh=>K (jc step s0 xs).2 (act n l ({target:=.collected r,args:= #[]}::D) pm none) h) B w0 (inv (jc step s0 xs).1++(pt r (.gX true)::bn)) F):
 R (λh=>EV P (.rangeFunc f ps assign body) (act n l D pm none) h K) B w0 kl F:=by
 refine QC (Y:=List α) (k1:=inv s0) (F1:=F1++F) (GQ:=λ_=>.tuple ⟨[]⟩) (out:=λxs=>(jc step s0 xs).2) (k1':=λxs=>inv (jc step s0 xs).1) (fs:=λ_=>[]) (pr:=X) hf ?_ hk (hF.app (Sub.refl' F [])) (λr y hy=>next r y hy);intro lo r;have:=hit (S×Out) (λso=>pt lo (.loop (lc ⟨.ready,none,gP l,n,ps,assign,body,r⟩ so.2))::inv so.1) (λvs so=>so.2=.normal/\ok vs so.1) (λso x=>(step so.1 x,lQ (step so.1 x).2)) (s0,.normal) (.yield lo) [] [] F ⟨rfl,h0⟩
  (λvs so x rest ho hx h=>by
    have h:lQ (step so.1 x).2=true:=h;have hn:(step so.1 x).2=.normal:=by
     cases e:(step so.1 x).2 with
     |normal=>rfl
     |_=>rw[e]at h;cases h
    exact⟨hn,hok vs so.1 x rest ho.2 hx hn⟩)
  (λvs so x rest ho hx=>by
    obtain⟨s,o⟩:=so;obtain⟨hn,ho⟩:=ho;have hn:o=.normal:=hn;subst hn;exact Rh (Y:=Unit) (L:=⟨.ready,none,gP l,n,ps,assign,body,r⟩) (args:=vals x) (k1:=inv s) (out:=λ_=>(step s x).2) (k1':=λ_=>inv (step s x).1) (fs:=λ_=>[]) (pr:=λ_=>True) l (l3 x) (λz=>k3 x z++inv s) rfl rfl hps (hlen x)
     (λB w0=>ha s x lo _ B w0) (λz B w0=>hb vs s x rest z lo _ B w0 ho hx))
 have e:(λxs:List α=>pt lo (.loop (lc ⟨.ready,none,gP l,n,ps,assign,body,r⟩ (gM (λ(so:S×Out) x=>(step so.1 x,lQ (step so.1 x).2)) (s0,.normal) xs).2))::inv (gM (λ(so:S×Out) x=>(step so.1 x,lQ (step so.1 x).2)) (s0,.normal) xs).1)=λxs=>pt lo (.loop (lc ⟨.ready,none,gP l,n,ps,assign,body,r⟩ (jc step s0 xs).2))::inv (jc step s0 xs).1:=by
  funext xs
  rw[K5]
 have h2:bz P fn (first++[.func (.yield lo) ⟨[]⟩ ⟨[]⟩]) captured (pt lo (.loop ⟨.ready,none,gP l,n,ps,assign,body,r⟩)::inv s0) (F1++F) (λ_:List α=>.tuple ⟨[]⟩) (λxs=>pt lo (.loop (lc ⟨.ready,none,gP l,n,ps,assign,body,r⟩ (gM (λ(so:S×Out) x=>(step so.1 x,lQ (step so.1 x).2)) (s0,.normal) xs).2))::inv (gM (λ(so:S×Out) x=>(step so.1 x,lQ (step so.1 x).2)) (s0,.normal) xs).1) (λ_=>[]) X:=this;rw[e]at h2;exact h2
theorem RQ{S α Z:Type}{f:Operand}{ps:List Tmp}{assign body:di}{fn:Fn}{first captured:List Value}{vals:α->List Value}{fe:α->List aF}{F1:List aF}{X:List α->Prop}(step:S->α->S×Out)(inv:S->List OA)(ok:List α->S->Prop)(s0:S)(l3:α->Z->List (Nat×Value))(k3:α->Z->List OA)(h0:ok [] s0)
 (hok:∀vs s x rest,ok vs s->X (vs++x::rest)->(step s x).2=.normal->ok (vs++[x]) (step s x).1) (hit:Lx P vals fe fn first captured F1 X)
 (ha:∀(s:S) (x:α) (lo:Nat) (o:dx) B w0,R (λh=>EV P assign (act n ((ps.zip (vals x)).reverse++l) [] none (some lo)) h (Bo B w0 n (l3 x) lo o (λz=>k3 x z++inv s) (fe x++F))) B w0 (pt lo o::inv s) (fe x++F))
 (hb:∀(vs:List α) (s:S) (x:α) (rest:List α) (z:Z) (lo:Nat) (L:mK) B w0,ok vs s->X (vs++x::rest)->R (λh=>EV P body (act n (l3 x z) [] none (some lo)) h (zk B w0 lo L (λ_:Unit=>(step s x).2) (λ_=>inv (step s x).1) (λ_=>[]) (λ_=>True))) B w0 (pt lo (.loop (ul L))::(k3 x z++inv s)) (fe x++F))
 (next:∀r xs,X xs->R (λh=>K (jc step s0 xs).2 (act n l ({target:=.collected r,args:= #[]}::D) pm none) h) B w0 (inv (jc step s0 xs).1++(pt r (.gX true)::bn)) F)
 (ja:∀s x,zi (step s x).2)
 (hf:ev l f=.func fn ⟨first⟩ ⟨captured⟩:=by rfl) (hps:ps.all (λp=>Nat.blt p n)=true:=by rfl) (hlen:∀x,ps.length=(vals x).length:=by intro _;rfl)
 (hk:aH (inv s0) kl bn:=by exact lN) (hF:Sub F1 F:=by exact kZ):
 R (λh=>EV P (.rangeFunc f ps assign body) (act n l D pm none) h K) B w0 kl F:=
 abh step inv ok s0 h0 hok hit hf hps hlen hk hF ja l3 k3 ha hb next
end
section
variable {B:List Nat} {w0:Wd} {kl:List OA} {F:List aF}
theorem abj{α:Type}(E:Enc α){v:Value}{xs:List α}{k:Nat}{x:α}{Q:IH->Prop}(n:Nat)(hn:E.n=n)(hx:xs[k]? =some x)
 (h:∀b o f c y,v=.slice (some ⟨b,o,some f⟩) xs.length c->R Q B w0 kl (eB b (o+k*n) (E.pat x y)::(E.fs x y++F))) (hf:ah E v xs∈F:=by exact vK):R Q B w0 kl F:=λw s=>by
 subst hn;rcases s.facts _ hf with⟨h0,_⟩|⟨i,o,f,c,cells,⟨h1,_⟩,h2,h3⟩
 ·rw[h0]at hx;cases hx
 ·obtain⟨y,q1,q2⟩:=h3 k x hx;refine h i o f c y h1 w ⟨s.agree,s.le,s.fF,s.own,λg hg=>?_⟩;rcases dD.1 hg with rfl|hg
  ·exact⟨cells,h2,q1⟩
  ·rcases dX.1 hg with hg|hg
   ·exact q2 g hg
   ·exact s.facts g hg
end
end Go.Ideal
namespace Go.Ideal
variable {P:Program} {B:List Nat} {w0:Wd} {kl kl' bn:List OA} {F:List aF} {K:KO} {ds:List Tmp} {rest:List bR} {n:Nat} {l:List (Nat×Value)} {D:List Deferred} {pm:Option FrameMode} {ro:Option Nat} {d:Nat} {g:Option (Tmp×Bool)}
end Go.Ideal
namespace Go.Ideal
open Go.RowKit Go.WideShapes Go.ChangeShapes
variable {P:Program}
def rE(n:Nat):Lay:=(List.range n).map λg=>(some ⟨g,0,0,0,0⟩,none)
theorem RU{n i:Nat}(h:i<n):(rE n)[i]? =some (some ⟨i,0,0,0,0⟩,none):=by
 unfold rE;rw[fo,ER h];rfl
theorem abk(n:Nat):(rE n).length=n:=by unfold rE;rw[bU,Cn]
theorem abl(za:P.follows .mixedOrders=true){f:FuncId}(fn:Func)(hfn:P.funcs[f]? =some fn)(hbody:fn.body.isNone=false)(hname:(fn.name== "runtime.NumGoroutine")=false){args args':List Value}{L:Lay}{w:World}{v:Value}(abm:jR P (jB L))
 (hL:∀(i:Nat) g cs,L[i]? =some (some g,some cs)->AY L w g cs) (hargs:aU (jB L) args args') (hv:bQ v=true)
 (hc:CALL P ⟨.func f,args,[],none⟩ (jS L) (λr pm h'=>pm=none/\r=.ok v/\Agree (jS L) h')):
 Calls P f ⟨args'⟩ w (λe w'=>e=.returned v/\Below w.heap.size w w'):=by
 have hM:=YP za hc;have hW:WR P (jB L) (jS L) w:=Za hL;obtain⟨nx,F0,n1,n2,n3⟩:=hM (jB L) w (.func f) args' [] abm hW (.func f) hargs .nil;have hnx:nx=.enter f ⟨args'⟩:=by
  have hcall:(callFunc f ⟨args'⟩).run P w=.ok (.enter f ⟨args'⟩) w:=by
   simp only[callFunc,dn,run_program,dz,hfn,hname,hbody,tJ,if_false,eD]
  have e:(⟨args'⟩:Array Value)++(⟨[]⟩:Array Value)=⟨args'⟩:=by apply Array.ext';simp
  have n1:(invoke (.fn (.func f) ⟨[]⟩) ⟨args'⟩).run P w=.ok nx w:=n1;simp only[invoke,e]at n1;rw[hcall]at n1;cases n1;rfl
 subst hnx;have vJ:F0=Frame.enter P f ⟨args'⟩ .normal:=by
  have:entry P .normal (.enter f ⟨args'⟩)=some (Frame.enter P f ⟨args'⟩ .normal):=rfl;have n2:entry P .normal (.enter f ⟨args'⟩)=some F0:=n2;rw[this]at n2;exact(Option.some.inj n2).symm
 subst vJ;intro cs;obtain⟨r,pm',h',β',w',r',cs1,q1,q2,q3,q4,q5,q6⟩:=n3 cs (by intro m hm;cases hm);obtain⟨hp,rfl,hag⟩:=q1;cases q5;cases q4 with
 | @ok v v' qh=>
   have:=qh.nQ hv;subst this;rcases q6 with⟨f1,a1,F1,e1,e2,e3,e4,e5⟩|⟨⟨_,l,e1⟩,_⟩
   ·cases e1;refine⟨.returned v',w',F1,⟨rfl,?_⟩,e2,e3,?_⟩
    ·refine⟨q3.os,q3.tape,q3.output,q3.size,λk hk=>?_⟩;by_cases hx:∀i g,jB L i=some g->(jS L).get i≠none->g.b≠k
     ·exact q3.keep k hk hx
     ·have hx:∃i g,jB L i=some g/\(jS L).get i≠none/\g.b=k:=by
       apply Classical.byContradiction;intro hc;exact hx λi g hi hg hb=>hc ⟨i,g,hi,hg,hb⟩
      obtain⟨i,g,hi,hg,rfl⟩:=hx;have hin:=hW.dom i g hi;exact q3.qf i g (by rw[hag.low (bP _)];exact hin) hin hi hg hk
    ·obtain⟨t1,t2,fn,t3,t4⟩:=e5;exact⟨t1,t2,e4,fn,t3,t4⟩
   ·cases e1
section
variable {H:Type} {enc:TypeId×Value->H} {W:World}
theorem abn(za:P.follows .mixedOrders=true){f:FuncId}(fn:Func)(hfn:P.funcs[f]? =some fn)(hbody:fn.body.isNone=false)(hname:(fn.name== "runtime.NumGoroutine")=false){K:TypeId->Prop}
 (hK:∀t,K t->PlainT P K t) {ts:List TypeId} {vs:List Value} {ds:List (DataW H)} {ps:List MemPlace} (hT:∀t∈ts,K t) (hok:∀(j:Nat) t v,ts[j]? =some t->vs[j]? =some v->Value.okWide P W .any 0 t v)
 (hA:DataW.TrodAll enc P W 0 (λ_=>true) true ts vs ds ps)
 (abo:∀(w:Wd) (vs':List Value),P.globals.size<=w.h.next->(∀i,i<w.h.next->w.z i)->vs'.length=vs.length->(∀(j:Nat) t v d,ts[j]? =some t->vs'[j]? =some v->ds[j]? =some d->xJ P w t v d)->∃F,(∀f∈F,f.p w)/\dG P f vs' F (.bool true)):
 Calls P f ⟨vs⟩ W (λe w'=>e=.returned (.bool true)/\Below W.heap.size W w'):=by
 obtain⟨M,vs',h1,h2,h3⟩:=Qk hK hT hok hA (rE P.globals.size);have hlG:=abk P.globals.size;refine abl za fn hfn hbody hname (L:=rE P.globals.size++M) (args:=vs') (λg hg=>⟨⟨g,0,0,0,0⟩,?_,rfl,rfl⟩) (λi g cs hi=>?_) h1 rfl ?_
 ·unfold jB;rw[nN (by omega),RU hg];rfl
 ·by_cases hlt:i<P.globals.size
  ·rw[nN (by omega),RU hlt]at hi;cases hi
  ·exact h3 i g cs (by omega) hi
 have hlen:vs'.length=vs.length:=by
  have:∀{a b:List Value},aU (jB (rE P.globals.size++M)) a b->a.length=b.length:=by
   intro a;induction a with
   |nil=>intro b h;cases h;rfl
   |cons x a ih=>intro b h;cases h with|cons q r=>simp[ih r]
  exact this h1
 obtain⟨F,hF,hfn'⟩:=abo (GM (rE P.globals.size++M)) vs' (by show _<=(rE P.globals.size++M).length;rw[gD];omega) (λi hi=>hi) hlen (λj t v d ht hv hd=>by
  obtain⟨v0,e,qh⟩:=aap (ts:=ts) h1 j v hv;exact aao rfl (h2 j t v d ht hv hd) qh (hok j t v0 ht e))
 have st:St [] (GM (rE P.globals.size++M)) [] F (GM (rE P.globals.size++M)):=⟨⟨bP _,λ_ _ _=>rfl,λ_ _=>rfl⟩,Wd.Le.refl _,λi _ hz=>.inl hz,⟨[],rfl,tT,λi hi=>by cases hi⟩,hF⟩
 refine .qj _ (hfn' [] (GM (rE P.globals.size++M)) st) ?_;rintro r pm h' ⟨rfl,w',y,rfl,s,rfl,_⟩;exact⟨rfl,rfl,⟨s.agree.next,λi hi=>s.agree.get i hi (by simp),λhl=>s.agree.low hl (by simp)⟩⟩
end
def Hf(n:Nat):aF:=⟨λw=>n<=w.h.next,λa h=>kU h a.next⟩
theorem abp{f:FuncId}{v:Value}{n:Nat}(hs:∀h:IH,n<=h.next->CALL P ⟨.func f,[],[],none⟩ h (λr pm h'=>pm=none/\r=.ok v/\h'=h)):dG P f [] [Hf n] v:=λB w s=>
 .qj _ (hs w.h (s.facts (Hf n) (bH.2 rfl))) (by rintro r pm h' ⟨rfl,rfl,rfl⟩;exact⟨rfl,w,(),rfl,⟨s.agree,s.le,s.fF,s.own,λf h=>by cases h⟩,rfl,trivial⟩)
end Go.Ideal
namespace Go.Ideal
variable {P:Program}
def LB:Value->Bool
 | .tuple ⟨c::cs⟩=>bQ c&&cs.all bQ
 | .tuple _=>false
 |v=>bQ v
theorem aU.RV{β:aB}:∀{l:List Value},l.all bQ=true->aU β l l
 |[],_=>.nil
 |v::l,h=>by
  rw[Cg,gG]at h;exact .cons (VR.free h.1) (aU.RV h.2)
theorem aU.LC{β:aB}:∀{l l':List Value},aU β l l'->l.all bQ=true->l'=l
 |_,_,.nil,_=>rfl
 |_,_,.cons h1 h2,h=>by
  rw[Cg,gG]at h;rw[h1.nQ h.1,aU.LC h2 h.2]
theorem VR.abq{β:aB}{v:Value}(h:LB v=true):VR β v v:=by
 unfold LB at h;split at h
 ·rename_i c cs;exact .tuple (aU.RV (by rw[Cg];exact h))
 ·cases h
 ·exact VR.free h
