/-
  Part IdealOX.
-/
import Derived.Test.YtoilpafpgndilaaGreatIdealNX
set_option linter.all false
namespace Go.Ideal
variable {P:Program}
theorem CR{ρ:Operand->Value}{src dst:TypeId}{x:Operand}{kk k:IntKind}{n m:Int}{ds:TypeDesc}(hs:P.underlying src=some ds)(hd:P.underlying dst=some (.int k))(hx:ρ x=.int kk n)(hw:k.wrap n=m):Pu P ρ (.conv src dst x) (.int k m):=λh=>by
 have h1:eD P (convert src dst (.int kk n))=some (.int k m):=by
  unfold convert;rw[ig,rM hs];simp only[iX];rw[ig,rM hd];simp only[iX];rw[<- hw];rfl
 simp only[aF.run,hx,kK,h1];rfl
theorem adi{a:Nat}(h:a<18446744073709551616):IntKind.u64.wrap (a:Int)=a:=by
 show(let m:=(a:Int)%(2^64:Int);if false&&m>=(2^63:Int)then m - (2^64:Int)else m)=_;simp only[Bool.false_and,vJ,if_false];rw[Int.emod_eq_of_lt (by omega) (by simpa using(by omega:(a:Int)<18446744073709551616))]
theorem adj{ρ:Operand->Value}{x y:Operand}{t:TypeId}{a b:Nat}(hx:ρ x=.int .u64 (a:Int))(hy:ρ y=.int .u64 (b:Int))(hb:b<64):Pu P ρ (.bin .shr t x y) (.int .u64 ((a>>>b:Nat):Int)):=λh=>by
 have hv:eD P (binOp .shr t (.int .u64 (a:Int)) (.int .u64 (b:Int)))=some (.int .u64 ((a>>>b:Nat):Int)):=by
  show eD P (Op.shift .shr .u64 a .u64 b)=_;unfold Op.shift;rw[if_neg (by omega)];show some (Value.int .u64 ((a:Int).fdiv (2^(min (b:Int).toNat 64))))=_;rw[show min (b:Int).toNat 64=b by simp;omega,Nat.shiftRight_eq_div_pow];congr 2;rw[show((2:Int)^b)=((2^b:Nat):Int)by simp,Int.fdiv_eq_ediv_of_nonneg _ (Int.natCast_nonneg _)];simp
 have h1:kK P (do eqGuard .shr t x y (.int .u64 (a:Int)) (.int .u64 (b:Int));binOp .shr t (.int .u64 (a:Int)) (.int .u64 (b:Int)))=some (.int .u64 ((a>>>b:Nat):Int)):=by
  unfold kK;rw[ig,Cx (by intro c e;cases e) (by intro e;cases e)];simp only[iX,hv];rfl
 have h2:mg P .shr t x y (.int .u64 (a:Int)) (.int .u64 (b:Int))=some (.int .u64 ((a>>>b:Nat):Int)):=by
  unfold mg;have:(match uA .u64 .u64 with|true=>oZ .shr .u64 (a:Int) (b:Int)|false=>none)=none:=rfl;simp only[uA,cK,Kl,cond];exact h1
 simp only[aF.run,hx,hy,h2]
theorem adk{α:Type}[DecidableEq α]{aX:α->Value}{kt:TypeId}{d:TypeDesc}(hu:P.underlying kt=some d)(hn:∀a b,Instr.sameNow d (aX a) (aX b)=none)(he:∀a b,eD P (Op.equal kt (aX a) (aX b))=some (decide (a=b)))(a:α)(aj:List (α×Value))(es:List MapEntry)(h:pF aX aj es):sU P kt (aX a) es=some (pE a aj 0):=by
 have adl:∀(aj:List (α×Value)) (es:List MapEntry) (i:Nat),pF aX aj es->eD P (Instr.findAsking kt (aX a) es i)=some (pE a aj i):=by
  intro aj;induction aj with
  |nil=>
   intro es i h;cases es with
   |nil=>rfl
   |cons e es=>cases h
  |cons p aj ih=>
   intro es i h;obtain⟨e,es',rfl,h1,h2,h3⟩:=MQ h;unfold Instr.findAsking;rw[ig,h1,he];simp only[iX];unfold pE;by_cases hab:a=p.1
   ·rw[dK hab,if_pos hab,h2];rfl
   ·rw[aR hab,if_neg hab];exact ih es' (i+1) h3
 unfold sU Instr.findKey;rw[ig,rM hu];simp only[iX];cases aj with
 |nil=>
  cases es with
  |nil=>rfl
  |cons e es=>cases h
 |cons p aj=>
  have h':=h;obtain⟨e,es',rfl,h1,h2,h3⟩:=MQ h;have:Instr.findNow d (aX a) (e::es') 0=none:=by
   show(match Instr.sameNow d (aX a) e.key with
   |some true=>some (some (0,e.val))
   |some false=>Instr.findNow d (aX a) es' 1
   |none=>none)=_
   rw[h1,hn]
  rw[this];exact adl _ _ _ h'
abbrev AX:Int×Int->Value:=λp=>.agg ⟨[.int .i64 p.1,.int .i64 p.2]⟩
theorem adm{kt e:TypeId}(hu:P.underlying kt=some (.array 2 e))(he:P.underlying e=some (.int .i64))(hs:P.info? e|>.map (·.size)|>(·=some 1))(hc:∀a b:Int,rz P kt (.agg ⟨[.int .i64 a,.int .i64 b]⟩)=true):rR P kt AX where
 E8 a:=hc a.1 a.2
 find a aj es h:=adk hu (λa b=>rfl) (λa b=>by
  have:=Tw (d:=9998) (xs:=[a.1,a.2]) (ys:=[b.1,b.2]) hu he hs rfl rfl;rw[show decide (a=b)=decide ([a.1,a.2]=[b.1,b.2])from nO.2 ⟨λh=>by rw[h],λh=>by
   injection h with h1 h2;injection h2 with h2;exact Prod.ext h1 h2⟩]
  exact this) a aj es h
 same a:=by
  show((⟨[Value.int .i64 a.1,.int .i64 a.2]⟩:Array Value).size==(⟨[Value.int .i64 a.1,.int .i64 a.2]⟩:Array Value).size&&(List.zip [Value.int .i64 a.1,.int .i64 a.2] [Value.int .i64 a.1,.int .i64 a.2]).all λ(x,y)=>Instr.sameBits 9999 x y)=true;simp[Instr.sameBits]
end Go.Ideal
namespace Go.Ideal
section
variable {P:Program}
variable {ds:List Tmp} {rest:List bV} {n:Nat} {l:List (Nat×Value)} {D:List Deferred} {pm:Option FrameMode} {ro:Option Nat} {h:IH} {K:KO} {d:Nat} {g:Option (Tmp×Bool)}
theorem TB{op:aF}{v:Value}{h':IH}{re:List iq}(hn:Nat.blt d n=true)(hg:cZ l g=true)(hr:op.run P (ev l) h=some (v,h'))
 (hsm:∀q∈re,∃u h2,q.op.run P (ev ((d,v)::l)) h'=some (u,h2)/\∀d',q.dst=some d'->lk ((d,v)::l) d'=u)
 (next:aH P ds rest (act n ((d,v)::l) D pm ro) h' K):aH P ds (⟨⟨some d,g,op⟩,re⟩::rest) (act n l D pm ro) h K:=
 .lu (vV hg) v h' (by rw[nI];exact hr) (λq hq _=>by
  obtain⟨u,h2,e1,e2⟩:=hsm q hq;rw[qf hn];exact⟨u,h2,by rw[nI];exact e1,λd' hd=>by rw[<- e2 d' hd];exact uQ _ _⟩) (by rw[qf hn];exact next)
theorem adn{re:List iq}{e:TypeId}{size bytes b o m k:Nat}{f:Option Nat}{s x:Operand}{old xs:List Value}(hn:Nat.blt d n=true)(hg:cZ l g=true)
 (hs:ev l s=.slice (some ⟨b,o,f⟩) m m) (hx:oW (ev l x)=some (k+1)) (hxs:nE size (k+1) (ev l x) h=some xs) (hold:h.iM b o (m*size)=some old)
 (hf:f=some 0\/f=some size) (hm:(m+(k+1))*bytes<=1073741824/\(m+(k+1))*size<=1073741824/\m+(k+1)<=1073741824)
 (hsm:∀h',Av h h' b (.cells (old++xs))->∀q∈re,∃u h2,q.op.run P (ev ((d,.slice (some ⟨h.next,0,some size⟩) (m+(k+1)) (m+(k+1)))::l)) h'=some (u,h2)/\∀d',q.dst=some d'->lk ((d,.slice (some ⟨h.next,0,some size⟩) (m+(k+1)) (m+(k+1)))::l) d'=u)
 (next:∀h',Av h h' b (.cells (old++xs))->aH P ds rest (act n ((d,.slice (some ⟨h.next,0,some size⟩) (m+(k+1)) (m+(k+1)))::l) D pm ro) h' K):
 aH P ds (⟨⟨some d,g,.append e size bytes s x⟩,re⟩::rest) (act n l D pm ro) h K:=by
 have hle:∀{a b:Nat},a<=b->Nat.ble a b=true:=λh=>by rw[vH];exact h
 have hlt:Nat.ble (m+(k+1)) m=false:=by
  cases hb:Nat.ble (m+(k+1)) m with
  |false=>rfl
  |true=>have:=mK hb;omega
 have hc:(Nat.ble (Nat.mul (m+(k+1)) bytes) small&&Nat.ble (Nat.mul (m+(k+1)) size) small&&Nat.ble (m+(k+1)) small)=true:=by
  rw[hle (show Nat.mul (m+(k+1)) bytes<=small from hm.1),hle (show Nat.mul (m+(k+1)) size<=small from hm.2.1),hle (show m+(k+1)<=small from hm.2.2)];rfl
 have hrun:∃h',(aF.append e size bytes s x).run P (ev l) h=some (.slice (some ⟨h.next,0,some size⟩) (m+(k+1)) (m+(k+1)),h')/\Av h h' b (.cells (old++xs)):=by
  have Aw:yG size (k+1) (ev l x) h=some xs:=hxs;simp only[aF.run,hx,Aw,hs,wX];have e1:nE size m (.slice (some ⟨b,o,f⟩) m m) h=some old:=hold;show∃h',(cond (Nat.ble (Nat.mul (m+(k+1)) bytes) small&&Nat.ble (Nat.mul (m+(k+1)) size) small&&Nat.ble (m+(k+1)) small) _ _)=_/\_;rw[hc];show∃h',(cond (Nat.ble (m+(k+1)) m) _ _)=_/\_;rw[hlt];simp only[cond,e1];rcases hf with rfl|rfl
  ·refine⟨_,rfl,?_⟩;exact⟨rfl,λi hi _=>by rw[IH.jc,if_neg (by omega)],⟨wN _,by rw[IH.jc,if_pos rfl,jK]⟩,λ_=>rfl⟩
  ·cases size with
   |zero=>
    refine⟨_,rfl,?_⟩;exact⟨rfl,λi hi _=>by rw[IH.jc,if_neg (by omega)],⟨wN _,by rw[IH.jc,if_pos rfl,jK]⟩,λ_=>rfl⟩
   |succ j=>
    have hj:Nat.beq (Nat.succ j) (j+1)=true:=Nat.beq_refl _;refine⟨(h.kill b).new (.cells (old++xs)),?_,?_⟩
    ·show cond (Nat.beq (Nat.succ j) (j+1)) _ _=_;rw[hj,jK];rfl
    ·exact⟨rfl,λi hi hb=>by rw[IH.jc,if_neg (by show i≠h.next;omega),IH.uF,if_neg hb],⟨wN _,by rw[IH.jc];exact if_pos rfl⟩,λhl=>by rw[IH.KG,IH.Af];omega⟩
 obtain⟨h',hr,hM⟩:=hrun;exact TB hn hg hr (hsm h' hM) (next h' hM)
theorem ado{re:List iq}{e:TypeId}{size bytes k c:Nat}{s x:Operand}{xs:List Value}(hn:Nat.blt d n=true)(hg:cZ l g=true)
 (hs:ev l s=.slice none 0 0) (hx:oW (ev l x)=some (k+1)) (hxs:nE size (k+1) (ev l x) h=some xs)
 (hm:(k+1)*bytes<=1073741824/\(k+1)*size<=1073741824/\(k+1)<=1073741824)
 (hsm:∀h',Agree h h'->At h' h.next (.cells xs)->h'.next=h.next+1->∀q∈re,∃u h2,q.op.run P (ev ((d,.slice (some ⟨h.next,0,some size⟩) (k+1) (k+1))::l)) h'=some (u,h2)/\∀d',q.dst=some d'->lk ((d,.slice (some ⟨h.next,0,some size⟩) (k+1) (k+1))::l) d'=u)
 (next:∀h',Agree h h'->At h' h.next (.cells xs)->h'.next=h.next+1->aH P ds rest (act n ((d,.slice (some ⟨h.next,0,some size⟩) (k+1) (k+1))::l) D pm ro) h' K):
 aH P ds (⟨⟨some d,g,.append e size bytes s x⟩,re⟩::rest) (act n l D pm ro) h K:=by
 have hle:∀{a b:Nat},a<=b->Nat.ble a b=true:=λh=>by rw[vH];exact h
 have e0:Nat.add 0 (k+1)=k+1:=fo _;refine TB hn hg (h':=h.new (.cells xs)) ?_ (hsm _ (Md _ _) (Me _ _) rfl) (next _ (Md _ _) (Me _ _) rfl);have Aw:yG size (k+1) (ev l x) h=some xs:=hxs;simp only[aF.run,hx,Aw,hs,wX,e0];rw[hle (show Nat.mul (k+1) bytes<=small from hm.1),hle (show Nat.mul (k+1) size<=small from hm.2.1),hle (show k+1<=small from hm.2.2)];have e1:nE size 0 (.slice none 0 0) h=some []:=by
  show(match (0:Nat)with|0=>some ([]:List Value)|_=>none)=_;rfl
 have e2:Nat.ble (k+1) 0=false:=rfl;simp only[Kl,cond_true,e2,cond_false,e1,jK,dY]
end
section
variable {P:Program}
variable {ρ:Operand->Value}
variable {B:List Nat} {w0:Wd} {kl kl':List OA} {F:List aO} {a:aV} {K:KO}
variable {y:dI} {i j m0:Nat} {I:Nat->aV->IH->Prop} {ch:List PanicEntry}
variable {B:List Nat} {w0:Wd} {kl kl':List OA} {F:List aO} {K:KO} {ds:List Tmp} {rest:List bV} {n:Nat} {l:List (Nat×Value)} {D:List Deferred} {pm:Option FrameMode} {ro:Option Nat} {d:Nat} {g:Option (Tmp×Bool)}
theorem adp{re:List iq}{α:Type}{E:Enc α}{e:TypeId}{size bytes b':Nat}{s x:Operand}{v:Value}{xs:List α}{a:α}{y:E.Y}{cs:List Value}{k1 k2:List OA}(hn:Nat.blt d n=true)(hg:cZ l g=true)
 (hs:ev l s=v) (hx:ev l x=.slice (some ⟨b',0,some 0⟩) 1 1) (hk:az (ap E v xs) kl k1) (hc:az (pt b' (.cells cs)) k1 k2) (hp:cs=E.pat a y) (hF:Sub (E.fs a y) F) (hz:E.n=size)
 (hm:(xs.length+1)*bytes<=1073741824/\(xs.length+1)*size<=1073741824/\xs.length+1<=1073741824)
 (hsm:∀ad,Same P re (ev ((d,.slice ad (xs.length+1) (xs.length+1))::l)) ((d,.slice ad (xs.length+1) (xs.length+1))::l) B w0 (ap E (.slice ad (xs.length+1) (xs.length+1)) (xs++[a])::k2) F)
 (r:∀ad,R (λh=>aH P ds rest (act n ((d,.slice ad (xs.length+1) (xs.length+1))::l) D pm ro) h K) B w0 (ap E (.slice ad (xs.length+1) (xs.length+1)) (xs++[a])::k2) F):
 R (λh=>aH P ds (⟨⟨some d,g,.append e size bytes s x⟩,re⟩::rest) (act n l D pm ro) h K) B w0 kl F:=by
 intro w st;subst hp hz;have hlen:=E.len a y;have st2:St B w0 (ap E v xs::pt b' (.cells (E.pat a y))::k2) F w:=st.kv (.cons hk (.cons hc .nil));have hat:At w.h b' (.cells (E.pat a y)):=st2.at_ (.there .here);have rJ:St B w0 (ap E v xs::k2) F w:=(st2.gq (.there .here)).tail;have hfs:∀f∈E.fs a y,f.p w:=λf hf=>st.facts f (hF.mem f hf);have hread:w.h.iM b' 0 (1*E.n)=some (E.pat a y):=by
  rw[hat.c.iM,p9,qD,BL,DC,if_pos (by omega),<- hlen,bU]
 have hx1:oW (ev l x)=some (0+1):=by rw[hx];rfl
 have hx2:nE E.n (0+1) (ev l x) w.h=some (E.pat a y):=by rw[hx];exact hread
 -- what lies there afterwards
 have put:∀(w':Wd) (c:Nat) (f:Nat) (cells:List Value),cells.length=xs.length*E.n->(∀(k:Nat) z,xs[k]? =some z->∃y,(∀(j:Nat) u,(E.pat z y)[j]? =some u->cells[k*E.n+j]? =some u)/\∀f∈E.fs z y,f.p w')->(∀f∈E.fs a y,f.p w')->
  (f=0\/f=E.n)->∀S,(pt c (.cells (cells++E.pat a y))).p w' S->(ap E (.slice (some ⟨c,0,some f⟩) (xs.length+1) (xs.length+1)) (xs++[a])).p w' S:=by
  intro w' c f cells h1 h2 h3 h4 S hp;refine .inr ⟨c,0,f,_,by rw[iH];rfl,h4,hp.1,hp.2,by rw[iH,iH,h1,hlen,zS,ru,BL,fo],λk z hk=>?_⟩;by_cases hlt:k<xs.length
  ·rw[qp hlt]at hk;obtain⟨y',q1,q2⟩:=h2 k z hk;refine⟨y',λj u hj=>?_,q2⟩;rw[fo];have:=q1 j u hj;rw[qp (bq.1 this).1];exact this
  ·rw[pR (by omega)]at hk;have hk0:k=xs.length:=by
    have:=(bq.1 hk).1;simp at this;omega
   subst hk0;simp at hk;subst hk;refine⟨y,λj u hj=>?_,h3⟩;rw[fo,pR (by omega),h1,XJ];exact hj
 obtain⟨S,⟨S1,S2,q,q2,e1⟩,hnd,hown⟩:=rJ.own;rcases q with⟨rfl,rfl,rfl⟩|⟨b,o,f,cells,rfl,hf,rfl,hb,hcl,hel⟩
 ·have key:∀h',Agree w.h h'->At h' w.h.next (.cells (E.pat a y))->h'.next=w.h.next+1->∃w':Wd,w'.h=h'/\St B w0 (ap E (.slice (some ⟨w.h.next,0,some E.n⟩) (([]:List α).length+1) (([]:List α).length+1)) ([]++[a])::k2) F w':=λh' ag uS hnx=>by
   obtain⟨w',rfl,kz⟩:=rJ.tail.fresh ag uS hnx;refine⟨w',rfl,?_⟩;have hle:∀f∈E.fs a y,f.p w':=λf hf=>kz.facts f (hF.mem f hf);exact kz.Cv λS hp=>put w' _ E.n [] (by simp) (λk z hk=>by cases hk) hle (.inr rfl) S hp
  refine ado (c:=0) hn hg hs hx1 hx2 (by simpa using hm) (λh' ag uS hnx=>?_) λh' ag uS hnx=>?_
  ·obtain⟨w',rfl,kz⟩:=key h' ag uS hnx;exact hsm _ w' kz
  ·obtain⟨w',rfl,kz⟩:=key h' ag uS hnx;exact r _ w' kz
 ·have EK:St B w0 (pt b (.cells cells)::k2) F w:=⟨rJ.agree,rJ.le,rJ.gF,⟨S,⟨_,S2,⟨rfl,hb⟩,q2,e1⟩,hnd,hown⟩,rJ.facts⟩
  have MC:At w.h b (.cells cells):=EK.at_ .here;have key:∀h',Av w.h h' b (.cells (cells.drop o++E.pat a y))->∃w':Wd,w'.h=h'/\St B w0 (ap E (.slice (some ⟨w.h.next,0,some E.n⟩) (xs.length+1) (xs.length+1)) (xs++[a])::k2) F w':=λh' mv=>by
   obtain⟨w',rfl,kz,EL⟩:=EK.move mv;refine⟨w',rfl,kz.Cv λS hp=>?_⟩;have hle:∀f∈E.fs a y,f.p w':=λf hf=>kz.facts f (hF.mem f hf);refine put w' _ E.n (cells.drop o) (by rw[sO];omega) (λk z hk=>?_) hle (.inr rfl) S hp;obtain⟨y',u1,u2⟩:=hel k z hk;exact⟨y',λj u hj=>by rw[oO,<- qw];exact u1 j u hj,λf hf=>f.mono EL (u2 f hf)⟩
  refine adn (old:=cells.drop o) (xs:=E.pat a y) hn hg hs hx1 hx2 ?_ (hf.elim (λe=>.inl (by rw[e])) λe=>.inr (by rw[e])) hm (λh' mv=>?_) λh' mv=>?_
  ·have hdl:(cells.drop o).length=xs.length*E.n:=by rw[sO];omega
   rw[MC.c.iM,p9,qD,if_pos (by omega),<- hdl,bU]
  ·obtain⟨w',rfl,kz⟩:=key h' mv;exact hsm _ w' kz
  ·obtain⟨w',rfl,kz⟩:=key h' mv;exact r _ w' kz
end
section
variable {P:Program} {B:List Nat} {w0:Wd} {kl kl' bH:List OA} {F:List aO} {K:KO} {n:Nat} {l:List (Nat×Value)} {D:List Deferred} {pm:Option FrameMode} {ro:Option Nat}
theorem TC{re:List iq}{α:Type}(E:Enc α){ds:List Tmp}{rest:List bV}{d:Nat}{g:Option (Tmp×Bool)}{e:TypeId}{size bytes b':Nat}{s x:Operand}{v:Value}{xs:List α}(a:α)(y:E.Y){cs:List Value}{k1 k2:List OA}
 (hm:(xs.length+1)*bytes<=1073741824/\(xs.length+1)*size<=1073741824/\xs.length+1<=1073741824)
 (next:∀ad,R (λh=>aH P ds rest (act n ((d,.slice ad (xs.length+1) (xs.length+1))::l) D pm ro) h K) B w0 (ap E (.slice ad (xs.length+1) (xs.length+1)) (xs++[a])::k2) F)
 (hn:Nat.blt d n=true:=by rfl) (hg:cZ l g=true:=by rfl)
 (hs:ev l s=v:=by conv=>lhs;whnf) (hx:ev l x=.slice (some ⟨b',0,some 0⟩) 1 1:=by rfl) (hk:az (ap E v xs) kl k1:=by exact gN) (hc:az (pt b' (.cells cs)) k1 k2:=by exact gN) (hp:cs=E.pat a y:=by rfl) (hF:Sub (E.fs a y) F:=by exact o9) (hz:E.n=size:=by rfl)
 (hsm:∀ad,Same P re (ev ((d,.slice ad (xs.length+1) (xs.length+1))::l)) ((d,.slice ad (xs.length+1) (xs.length+1))::l) B w0 (ap E (.slice ad (xs.length+1) (xs.length+1)) (xs++[a])::k2) F:=by intro _;repeat (first|exact yZ|refine AJ rfl (by repeat (first|with_reducible exact az.here|with_reducible apply az.there|with_reducible apply az.app)) (by first|exact rfl|(conv=>lhs;whnf)) rfl ?_|refine Cy rfl (by(repeat (first|with_reducible exact cB .. |with_reducible apply cO));first|done|fail) (by first|exact rfl|(conv=>lhs;whnf)) rfl ?_|refine EO rfl (by(repeat (first|with_reducible exact cB .. |with_reducible apply cO));first|done|fail) (by first|exact rfl|(conv=>lhs;whnf)) rfl ?_|refine EP rfl (by repeat (first|with_reducible exact az.here|with_reducible apply az.there|with_reducible apply az.app)) (by first|exact rfl|(conv=>lhs;whnf)) rfl ?_|refine EQ rfl (by(repeat (first|with_reducible exact cB .. |with_reducible apply cO));first|done|fail) (by first|exact rfl|(conv=>lhs;whnf)) rfl ?_|refine ER rfl (by(repeat (first|with_reducible exact cB .. |with_reducible apply cO));first|done|fail) (by first|exact rfl|(conv=>lhs;whnf)) rfl ?_|refine MF (by first|((with_reducible apply EI);(focus ((conv=>lhs;whnf);(first|done|fail))))|((with_reducible apply Hw);(focus ((conv=>lhs;whnf);(first|done|fail))))|((with_reducible apply HY);(focus exact rfl))|((with_reducible apply H6);(focus exact rfl);(focus exact rfl))|((with_reducible apply H7);(focus exact rfl);(focus exact rfl))|((with_reducible apply H8);(focus exact rfl);(focus exact rfl))|((with_reducible apply H9);(focus exact rfl);(focus exact rfl))|((with_reducible apply Ia);(focus exact rfl);(focus exact rfl))|((with_reducible apply Ib);(focus exact rfl);(focus exact rfl))|((with_reducible apply HV);(focus exact rfl))|((with_reducible apply Hy);(focus exact rfl);(focus ((conv=>lhs;whnf);(first|done|fail))))|((with_reducible apply Hz);(focus exact rfl);(focus ((conv=>lhs;whnf);(first|done|fail))))|((with_reducible apply Ie);(focus exact rfl);(focus ((conv=>lhs;whnf);(first|done|fail))))|((with_reducible apply Ig);(focus exact rfl))|((with_reducible apply Ih);(focus exact rfl);(focus ((conv=>lhs;whnf);(first|done|fail))))|((with_reducible apply Ii);(focus exact rfl);(focus ((conv=>lhs;whnf);(first|done|fail))))|((with_reducible apply Ij);(focus ((conv=>lhs;whnf);(first|done|fail))))|((with_reducible apply Ik);(focus exact rfl))|((with_reducible apply Il);(focus exact rfl))|((with_reducible apply Im);(focus exact rfl))|with_reducible exact HZ|((with_reducible apply Io);(focus exact rfl);(focus exact rfl);(focus exact rfl))|((with_reducible apply IB);(focus exact rfl);(focus exact rfl);(focus ((omega);(first|done|fail))))|((with_reducible apply EJ);(focus exact rfl);(focus exact rfl);(focus ((omega);(first|done|fail)));(focus ((omega);(first|done|fail))))|((with_reducible apply Ip);(focus exact rfl);(focus exact rfl);(focus ((omega);(first|done|fail)));(focus ((omega);(first|done|fail))))|((with_reducible apply Cw);(focus exact rfl);(focus exact rfl);(focus ((omega);(first|done|fail)));(focus ((omega);(first|done|fail))))|((with_reducible apply Ic);(focus exact rfl);(focus exact rfl);(focus ((omega);(first|done|fail)));(focus ((omega);(first|done|fail))))|((with_reducible apply Iu);(focus exact rfl);(focus exact rfl);(focus ((first|assumption|kernel_rfl);(first|done|fail))))|((with_reducible apply Iw);(focus exact rfl);(focus exact rfl);(focus ((first|assumption|kernel_rfl);(first|done|fail))))|((with_reducible apply Iy);(focus exact rfl);(focus exact rfl))|((with_reducible apply Iz);(focus exact rfl);(focus exact rfl))|((with_reducible apply IA);(focus exact rfl);(focus exact rfl);(focus ((omega);(first|done|fail)));(focus ((omega);(first|done|fail))))) rfl ?_)):
 R (λh=>aH P ds (⟨⟨some d,g,.append e size bytes s x⟩,re⟩::rest) (act n l D pm ro) h K) B w0 kl F:=
 adp hn hg hs hx hk hc hp hF hz hm hsm next
end
end Go.Ideal
namespace Go.Ideal
variable {P:Program}
section
variable {α κ:Type} [DecidableEq κ] {aX:κ->Value} {E:Enc α}
def nX(E:Enc α):List (κ×Value)->List (κ×List α)->List OA
 |p::aj,q::m=>ap E p.2 q.2::nX E aj m
 |_,_=>[]
def tV(E:Enc α)(n:κ):List (κ×Value)->List (κ×List α)->List OA
 |p::aj,q::m=>if n=p.1 then nX E aj m else ap E p.2 q.2::tV E n aj m
 |_,_=>[]
def Fg(aX:κ->Value)(E:Enc α)(b:Nat)(m:List (κ×List α)):OA:=
 ⟨λw S=>∃aj:List (κ×Value),aj.map (·.1)=m.map (·.1)/\fI w (gP aX b aj::nX E aj m) S,λa h ⟨aj,h1,h2⟩=>⟨aj,h1,fI.loc a h h2⟩⟩
def TD(E:Enc α)(n:κ)(aj:List (κ×Value))(m:List (κ×List α)):OA:=⟨λw S=>fI w (tV E n aj m) S,λa h hp=>fI.loc a h hp⟩
def TE(E:Enc α)(aj:List (κ×Value))(m:List (κ×List α)):OA:=⟨λw S=>fI w (nX E aj m) S,λa h hp=>fI.loc a h hp⟩
def TF(E:Enc α)(aj:List (κ×Value))(m:List (κ×List α)):aO:=
 ⟨λw=>∀n v xs,dR n aj=some v->dR n m=some xs->(ai E v xs).p w,λa h n v xs h1 h2=>(ai E v xs).mono a (h n v xs h1 h2)⟩
theorem M3{β γ:Type}{n:κ}:∀{aj:List (κ×β)} {m:List (κ×γ)},aj.map (·.1)=m.map (·.1)->(dR n aj=none↔dR n m=none)
 |[],[],_=>⟨λ_=>rfl,λ_=>rfl⟩
 |(a,u)::aj,(b,x)::m,h=>by
  rw[gL,gL]at h;injection h with h1 h2;have h1:a=b:=h1;subst h1;unfold dR;by_cases e:n=a
  ·rw[if_pos e,if_pos e];exact⟨λh=>(nomatch h),λh=>(nomatch h)⟩
  ·rw[if_neg e,if_neg e];exact M3 h2
 |[],_::_,h=>by cases h
 |_::_,[],h=>by cases h
theorem TG{n:κ}:∀{aj:List (κ×Value)} {m:List (κ×List α)},dR n aj=none->tV E n aj m=nX E aj m
 |[],_,_=>by unfold tV nX;rfl
 |_::_,[],_=>by unfold tV nX;rfl
 |(a,u)::aj,(b,x)::m,h=>by
  unfold dR at h;by_cases e:n=a
  ·rw[if_pos e]at h;cases h
  ·rw[if_neg e]at h;unfold tV nX;rw[if_neg e,TG h]
theorem M4{n:κ}{v:Value}{xs:List α}:∀{aj:List (κ×Value)} {m:List (κ×List α)},aj.map (·.1)=m.map (·.1)->dR n aj=some v->dR n m=some xs->az (ap E v xs) (nX E aj m) (tV E n aj m)
 |[],_,_,h,_=>by cases h
 |_::_,[],h,_,_=>by cases h
 |(a,u)::aj,(b,x)::m,h,h1,h2=>by
  rw[gL,gL]at h;injection h with e1 e2;have e1:a=b:=e1;subst e1;unfold dR at h1 h2;unfold nX tV;by_cases e:n=a
  ·rw[if_pos e]at h1 h2⊢;cases h1;cases h2;exact .here
  ·rw[if_neg e]at h1 h2⊢;exact .there (M4 e2 h1 h2)
theorem TH{n:κ}{v:Value}{xs:List α}:∀{aj:List (κ×Value)} {m:List (κ×List α)},aj.map (·.1)=m.map (·.1)->az (ap E v xs) (nX E (upd n v aj) (upd n xs m)) (tV E n aj m)
 |[],[],_=>by unfold upd tV nX nX;exact .here
 |[],_::_,h=>by cases h
 |_::_,[],h=>by cases h
 |(a,u)::aj,(b,x)::m,h=>by
  rw[gL,gL]at h;injection h with e1 e2;have e1:a=b:=e1;subst e1;unfold upd tV;by_cases e:n=a
  ·rw[if_pos e,if_pos e,if_pos e];rw[show nX E ((n,v)::aj) ((n,xs)::m)=ap E v xs::nX E aj m from rfl];exact .here
  ·rw[if_neg e,if_neg e,if_neg e];rw[show nX E ((a,u)::upd n v aj) ((a,x)::upd n xs m)=ap E u x::nX E (upd n v aj) (upd n xs m)from rfl];exact .there (TH e2)
theorem Fh{β γ:Type}{n:κ}{v:β}{x:γ}:∀{aj:List (κ×β)} {m:List (κ×γ)},aj.map (·.1)=m.map (·.1)->(upd n v aj).map (·.1)=(upd n x m).map (·.1)
 |[],[],_=>rfl
 |[],_::_,h=>by cases h
 |_::_,[],h=>by cases h
 |(a,u)::aj,(b,y)::m,h=>by
  rw[gL,gL]at h;injection h with e1 e2;have e1:a=b:=e1;subst e1;unfold upd;by_cases e:n=a
  ·rw[if_pos e,if_pos e,gL,gL,e2]
  ·rw[if_neg e,if_neg e,gL,gL,Fh e2]
variable {B:List Nat} {w0:Wd} {kl kl' bH k1 k2:List OA} {F:List aO} {Q:IH->Prop} {b:Nat} {m:List (κ×List α)}
theorem adq(E:Enc α)(h:R Q B w0 (Fg aX E b ([]:List (κ×List α))::kl') F)(hk:az (gP aX b []) kl kl':=by exact gN):R Q B w0 kl F:=
 .perm (λw S hS=>by
  obtain⟨S',⟨T1,T2,u1,u2,e⟩,hp⟩:=hS.gq hk;exact⟨S',⟨T1,T2,⟨[],rfl,T1,[],u1,rfl,by simp⟩,u2,e⟩,hp⟩) h
theorem adr(n:κ)(hk:az (Fg aX E b m) kl kl':=by exact gN)
 (h:∀(aj:List (κ×Value)) (v:Value),aj.map (·.1)=m.map (·.1)->kT false (.slice none 0 0) n aj=v->R Q B w0 (gP aX b aj::ap E v ((dR n m).getD [])::TD E n aj m::kl') F):R Q B w0 kl F:=λw s=>by
 obtain⟨S,⟨S1,S2,⟨aj,hkeys,T1,T2,u1,u2,e1⟩,q2,e⟩,hnd,hall⟩:=(s.gq hk).own;have key:∃T',fI w (ap E (kT false (.slice none 0 0) n aj) ((dR n m).getD [])::tV E n aj m) T'/\T2.Perm T':=by
  cases hl:dR n aj with
  |none=>
   have hm:=(M3 (n:=n) hkeys).1 hl;have e1:kT false (.slice none 0 0) n aj=.slice none 0 0:=by unfold kT;rw[hl];rfl
   rw[e1,hm,TG hl];exact⟨T2,⟨[],T2,.inl ⟨rfl,rfl,rfl⟩,u2,rfl⟩,.refl _⟩
  |some v=>
   cases hm:dR n m with
   |none=>rw[(M3 (n:=n) hkeys).2 hm]at hl;cases hl
   |some xs=>
    have e1:kT false (.slice none 0 0) n aj=v:=by unfold kT;rw[hl];rfl
    rw[e1];exact u2.gq (M4 hkeys hl hm)
 obtain⟨T',⟨T3,T4,u3,u4,e3⟩,hp⟩:=key;subst e e1 e3;have hperm:((T1++T2)++S2).Perm (T1++(T3++(T4++S2))):=by
  rw[List.append_assoc];refine List.Perm.append_left T1 ?_;rw[<- List.append_assoc];exact List.Perm.append_right S2 hp
 exact h aj _ hkeys rfl w ⟨s.agree,s.le,s.gF,⟨_,⟨T1,_,u1,⟨T3,_,u3,⟨T4,S2,u4,q2,rfl⟩,rfl⟩,rfl⟩,hperm.nodup hnd,λi hi=>hall i (hperm.mem_iff.2 hi)⟩,s.facts⟩
theorem ads(n:κ){aj:List (κ×Value)}{v:Value}{xs:List α}(hkeys:aj.map (·.1)=m.map (·.1))(h:R Q B w0 (Fg aX E b (upd n xs m)::bH) F)
 (h1:az (gP aX b (upd n v aj)) kl k1:=by exact gN) (h2:az (ap E v xs) k1 k2:=by exact gN) (h3:az (TD E n aj m) k2 bH:=by exact gN):R Q B w0 kl F:=
 .perm (λw S hS=>by
  obtain⟨S1,S2,q1,q2,hp⟩:=hS.kv (.cons h1 (.cons h2 (.cons h3 .nil)));obtain⟨T1,U1,u1,⟨T2,U2,u2,⟨T3,U3,u3,u4,e3⟩,e2⟩,e1⟩:=q1;have u4:U3=[]:=u4;subst u4 e3 e2 e1;obtain⟨V,v1,v2⟩:=fI.MN (TH (E:=E) (n:=n) (v:=v) (xs:=xs) hkeys) (S:=T2++T3) (w:=w) ⟨T2,T3,u2,u3,rfl⟩;refine⟨(T1++V)++S2,⟨T1++V,S2,⟨upd n v aj,Fh hkeys,⟨T1,V,u1,v1,rfl⟩⟩,q2,rfl⟩,hp.trans ?_⟩;rw[gU];exact List.Perm.append_right S2 (List.Perm.append_left T1 v2)) h
theorem adt(h:∀aj:List (κ×Value),aj.map (·.1)=m.map (·.1)->R Q B w0 (gP aX b aj::TE E aj m::kl') F)(hk:az (Fg aX E b m) kl kl':=by exact gN):R Q B w0 kl F:=λw s=>by
 obtain⟨S,⟨S1,S2,⟨aj,hkeys,T1,T2,u1,u2,e1⟩,q2,e⟩,hnd,hall⟩:=(s.gq hk).own;subst e e1;refine h aj hkeys w ⟨s.agree,s.le,s.gF,⟨T1++(T2++S2),⟨T1,_,u1,⟨T2,S2,u2,q2,rfl⟩,rfl⟩,?_,λi hi=>hall i ?_⟩,s.facts⟩
 ·rw[<- List.append_assoc];exact hnd
 ·rw[List.append_assoc];exact hi
theorem adu{aj:List (κ×Value)}(hkeys:aj.map (·.1)=m.map (·.1)):rH (TE E aj m) [TF E aj m]:=by
 intro w w' S hS hle hh hz f hf;rw[bM.1 hf];have hS:fI w (nX E aj m) S:=hS;clear hf;intro n v xs h1 h2;obtain⟨S',⟨T1,T2,u1,_,e⟩,hp⟩:=hS.gq (M4 hkeys h1 h2);subst e;exact gz w w' T1 u1 hle hh (λi hi=>hz i (hp.mem_iff.2 (je _ hi))) _ (bM.2 rfl)
end
end Go.Ideal
namespace Go.Ideal
variable {P:Program} {B:List Nat} {w0:Wd} {kl kl' bH:List OA} {F:List aO} {K:KO} {ds:List Tmp} {rest:List bV} {n:Nat} {l:List (Nat×Value)} {D:List Deferred} {pm:Option FrameMode} {ro:Option Nat} {d:Nat} {g:Option (Tmp×Bool)}
theorem I6{α:Type}(E:Enc α){x i:Operand}{v:Value}{xss:List (List α)}(k:Nat)(xs:List α){kk:IntKind}{d2:Nat}{g2:Option (Tmp×Bool)}(hz:xss[k]? =some xs)
 (next:∀b o u,R (λh=>aH P ds rest (act n ((d2,u)::(d,.pointer (some ⟨b,o,none⟩))::l) D pm ro) h K) B w0 kl (ai E u xs::F))
 (hn:Nat.blt d n=true:=by rfl) (hg:cZ l g=true:=by rfl) (hn2:Nat.blt d2 n=true:=by rfl) (hg2:∀u,cZ ((d,u)::l) g2=true:=by intro _;rfl) (hx:ev l x=v:=by conv=>lhs;whnf) (hi:ev l i=.int kk (k:Int):=by rfl)
 (hk:az (ap (ak E) v xss) kl kl':=by exact gN):
 R (λh=>aH P ds (⟨⟨some d,g,.nQ 1 x i⟩,[]⟩::⟨⟨some d2,g2,.gQ (.tmp d)⟩,[]⟩::rest) (act n l D pm ro) h K) B w0 kl F:=by
 intro w s;have s1:=s.gq hk;obtain⟨S,⟨S1,S2,p,p2,e⟩,h2,h3⟩:=s1.own;have hlt:=(bq.1 hz).1;rcases p with⟨h,_⟩|⟨b,o,f,cells,e1,hf,e2,hb,hcl,hel⟩
 ·rw[h]at hz;cases hz
 ·subst e1;obtain⟨y,u1,u2⟩:=hel k xs hz;have hc:cells[o+(k:Int).toNat*1]? =some y:=by
   have:=u1 0 y rfl;simpa[ak]using this
  refine Mj hn hg hx hi (by omega) (by omega) ?_;have hbS:b∈S:=by rw[e,e2];simp
  refine Hg hn2 (hg2 _) (by show lk _ d=_;simp[lk]) ⟨(h3 b hbS).2.1,hb⟩ hc (next _ _ y w ⟨s.agree,s.le,s.gF,s.own,λf hf=>?_⟩);rcases dx.1 hf with rfl|hf
  ·exact u2 _ (bM.2 rfl)
  ·exact s.facts f hf
end Go.Ideal
namespace Go.Ideal
variable {P:Program} {B:List Nat} {w0:Wd} {kl kl' bH k1 k2:List OA} {F:List aO} {Q:IH->Prop}
section
variable {β:Type} (A:Value->β->OA)
def tX(vs:List Value)(xss:List β):List OA:=(vs.zip xss).map λp=>A p.1 p.2
def nY(b:Nat)(xss:List β):OA:=
 ⟨λw S=>∃vs:List Value,vs.length=xss.length/\fI w (pt b (.cells vs)::tX A vs xss) S,λa h ⟨vs,h1,h2⟩=>⟨vs,h1,fI.loc a h h2⟩⟩
def TI(vs:List Value)(xss:List β)(k:Nat):OA:=
 ⟨λw S=>fI w ((tX A vs xss).eraseIdx k) S,λa h hp=>fI.loc a h hp⟩
theorem TJ{vs:List Value}{xss:List β}{k:Nat}{v:Value}{xs:β}(hv:vs[k]? =some v)(hx:xss[k]? =some xs):(tX A vs xss)[k]? =some (A v xs):=by
 simp[tX,List.zip,dm,List.getElem?_zipWith,hv,hx]
theorem TK{b:Nat}{xss:List β}{k:Nat}{xs:β}(hx:xss[k]? =some xs)(hk:az (nY A b xss) kl kl':=by exact gN)
 (h:∀(vs:List Value) (v:Value),vs.length=xss.length->vs[k]? =some v->R Q B w0 (pt b (.cells vs)::A v xs::TI A vs xss k::kl') F):R Q B w0 kl F:=λw s=>by
 obtain⟨S,⟨S1,S2,⟨vs,h1,h2⟩,q2,e⟩,hnd,hall⟩:=(s.gq hk).own;subst e;have hlt:=(bq.1 hx).1;have hv:vs[k]? =some (vs[k]'(by omega)):=bP (by omega);refine h vs _ h1 hv w ?_;have hg:(tX A vs xss)[k]? =some (A (vs[k]'(by omega)) xs):=TJ A hv hx;obtain⟨T1,T2,u1,u2,e⟩:=h2;obtain⟨T3,⟨T4,T5,u4,u5,e5⟩,u6⟩:=u2.gq (az.at hg);subst e5 e;have hperm:((T1++T2)++S2).Perm (T1++(T4++(T5++S2))):=by
  rw[List.append_assoc];refine List.Perm.append_left T1 ?_;rw[<- List.append_assoc];exact List.Perm.append_right S2 u6
 exact⟨s.agree,s.le,s.gF,⟨T1++(T4++(T5++S2)),⟨T1,_,u1,⟨T4,_,u4,⟨T5,S2,u5,q2,rfl⟩,rfl⟩,rfl⟩,hperm.nodup hnd,λi hi=>hall i (hperm.mem_iff.2 hi)⟩,s.facts⟩
theorem adv{vs:List Value}{xss:List β}{k:Nat}{v:Value}{xs:β}:tX A (vs.set k v) (xss.set k xs)=(tX A vs xss).set k (A v xs):=by
 apply iY;intro j;simp only[tX,dm,oQ,List.zip,List.getElem?_zipWith];by_cases e:k=j
 ·subst e;by_cases h1:k<vs.length
  ·by_cases h2:k<xss.length
   ·simp[h1,h2];omega
   ·simp[h1,h2];omega
  ·simp[h1];omega
 ·simp[e]
theorem TL{b:Nat}{xss:List β}{vs:List Value}{k:Nat}{v:Value}{xs:β}(hlen:vs.length=xss.length)(hk:k<xss.length)(h1:az (pt b (.cells (vs.set k v))) kl k1:=by exact gN)
 (h2:az (A v xs) k1 k2:=by exact gN) (h3:az (TI A vs xss k) k2 bH:=by exact gN) (h:R Q B w0 (nY A b (xss.set k xs)::bH) F):R Q B w0 kl F:=
 .perm (λw S hS=>by
  obtain⟨S1,S2,q1,q2,hp⟩:=hS.kv (.cons h1 (.cons h2 (.cons h3 .nil)));obtain⟨T1,U1,u1,⟨T2,U2,u2,⟨T3,U3,u3,u4,e3⟩,e2⟩,e1⟩:=q1;have u4:U3=[]:=u4;subst u4 e3 e2 e1;have hl:((tX A vs xss).set k (A v xs))[k]? =some (A v xs):=by
   rw[oQ,if_pos rfl,if_pos (by simp[tX];omega)]
  obtain⟨V,v1,v2⟩:=fI.MN (az.at hl) (S:=T2++T3) (w:=w) ⟨T2,T3,u2,by rw[SE];exact u3,rfl⟩;refine⟨(T1++V)++S2,⟨T1++V,S2,⟨vs.set k v,by simp[hlen],⟨T1,V,u1,by rw[adv];exact v1,rfl⟩⟩,q2,rfl⟩,hp.trans ?_⟩;rw[gU];exact List.Perm.append_right S2 (List.Perm.append_left T1 v2)) h
theorem adw{b m:Nat}{v0:Value}{x0:β}(h0:∀w,(A v0 x0).p w [])(hk:az (pt b (.cells (List.replicate m v0))) kl kl':=by exact gN)(h:R Q B w0 (nY A b (List.replicate m x0)::kl') F):R Q B w0 kl F:=
 .perm (λw S hS=>by
  obtain⟨S',⟨T1,T2,u1,u2,e⟩,hp⟩:=hS.gq hk;refine⟨S',⟨T1,T2,⟨List.replicate m v0,by simp,⟨T1,[],u1,?_,by simp⟩⟩,u2,e⟩,hp⟩;have:∀m,fI w (tX A (List.replicate m v0) (List.replicate m x0)) []:=by
   intro m;induction m with
   |zero=>rfl
   |succ m ih=>exact⟨[],[],h0 w,ih,rfl⟩
  exact this m) h
theorem adx{E:Enc β}{b c:Nat}{xss:List β}(fv:Value->E.Y)(hn:E.n=1)(hpat:∀x v,E.pat x (fv v)=[v])(hA:∀v xs,rH (A v xs) (E.fs xs (fv v)))(hc:xss.length<=c:=by first|exact bT _|omega):rH (nY A b xss) [ai E (.slice (some ⟨b,0,some 0⟩) xss.length c) xss]:=by
 intro w w' S ⟨vs,hlen,T1,T2,⟨h1,h2⟩,u2,e⟩ hle hh hz f hf;subst e;rw[bM.1 hf];refine .inr ⟨b,0,0,c,vs,⟨rfl,hc,.inl rfl⟩,⟨hz b (by rw[h1];simp),.inl (by rw[hh];exact h2)⟩,λk xs hk=>?_⟩;have hlt:=(bq.1 hk).1;have hv:vs[k]? =some (vs[k]'(by omega)):=bP (by omega);have hg:(tX A vs xss)[k]? =some (A (vs[k]'(by omega)) xs):=TJ A hv hk;obtain⟨T3,⟨T4,T5,u4,u5,e5⟩,u6⟩:=u2.gq (az.at hg);subst e5;refine⟨fv (vs[k]'(by omega)),λj u hj=>?_,λg hgm=>?_⟩
 ·rw[hpat]at hj;match j,hj with
  |0,hj=>
   cases hj;show vs[0+k*E.n+0]? =_;rw[hn];simp
 ·exact hA _ _ w w' T4 u4 hle hh (λi hi=>hz i (nA _ (u6.mem_iff.2 (je _ hi)))) g hgm
end
def I7{α:Type}(v:Value)(xs:List α):aO:=⟨λ_=>xs=[]->v=.slice none 0 0,λ_ h=>h⟩
def lD{α:Type}(E:Enc α)(v:Value)(xs:List α):OA:=⟨λw S=>(ap E v xs).p w S/\(xs=[]->v=.slice none 0 0),λa h hp=>⟨(ap E v xs).loc a h hp.1,hp.2⟩⟩
def tY{α:Type}(E:Enc α):Enc (List α):=⟨1,Value,λ_ v=>[v],λxs v=>[ai E v xs,I7 v xs],λ_ _=>rfl⟩
theorem ady{α:Type}{E:Enc α}{v:Value}{xs:List α}:rH (lD E v xs) [ai E v xs,I7 v xs]:=by
 intro w w' S hp hle hh hz f hf;rcases dx.1 hf with rfl|hf
 ·exact gz w w' S hp.1 hle hh hz _ (bM.2 rfl)
 ·rw[bM.1 hf];exact hp.2
theorem TM{α:Type}(E:Enc α)(v:Value)(xs:List α)(h:(xs=[]->v=.slice none 0 0)->R Q B w0 (ap E v xs::kl') F)(hk:az (lD E v xs) kl kl':=by exact gN):R Q B w0 kl F:=λw s=>by
 obtain⟨S,⟨S1,S2,q1,q2,e⟩,h2,h3⟩:=(s.gq hk).own;exact h q1.2 w ⟨s.agree,s.le,s.gF,⟨S,⟨S1,S2,q1.1,q2,e⟩,h2,h3⟩,s.facts⟩
theorem TN{α:Type}(E:Enc α)(v:Value)(xs:List α)(hz:xs=[]->v=.slice none 0 0)(h:R Q B w0 (lD E v xs::kl') F)(hk:az (ap E v xs) kl kl':=by exact gN):R Q B w0 kl F:=λw s=>
 h w ((s.gq hk).AB (A:=ap E v xs) λw S hp=>⟨hp,hz⟩)
theorem TP{α:Type}{E:Enc α}{v:Value}{xss:List (List α)}{w:Wd}(h:(ai (tY E) v xss).p w):(ai (ak E) v xss).p w:=by
 rcases h with h|⟨i,o,f,c,cells,h1,h2,h3⟩
 ·exact .inl h
 ·refine .inr ⟨i,o,f,c,cells,h1,h2,λk x hk=>?_⟩;obtain⟨y,q1,q2⟩:=h3 k x hk;exact⟨y,q1,λf hf=>q2 f (by rw[bM.1 hf];exact cB ..)⟩
theorem I8{A A':OA}(e:A=A')(h:R Q B w0 (A'::kl') F)(hk:az A kl kl':=by exact gN):R Q B w0 kl F:=by
 subst e;exact λw s=>h w (s.gq hk)
theorem St.TQ{α:Type}{E:Enc α}{v:Value}{aC:List (α×E.Y)}{w:Wd}(h0:0<aC.length)(hall:(pG E aC).p w)(s:St B w0 (ar E v aC::kl') F w):St B w0 (ap E v (aC.map (·.1))::kl') F w:=by
 obtain⟨S,⟨S1,S2,q1,q2,e⟩,h2,h3⟩:=s.own;refine⟨s.agree,s.le,s.gF,⟨S,⟨S1,S2,?_,q2,e⟩,h2,h3⟩,s.facts⟩;rcases q1 with⟨h4,_⟩|⟨b,f,h4,h5,h6,h7⟩
 ·rw[h4]at h0;simp at h0
 ·refine .inr ⟨b,0,f,_,by rw[bY];exact h4,h5,h6,h7,by rw[za,bY,fo],λk x hk=>?_⟩;rw[dm]at hk;cases hp:aC[k]? with
  |none=>rw[hp]at hk;cases hk
  |some p=>
   rw[hp]at hk;cases hk;exact⟨p.2,λj u hj=>by rw[fo];exact vZ hp hj,λf hf=>hall p (aZ hp) f hf⟩
theorem TR{α:Type}{E:Enc α}{v:Value}{aC:List (α×E.Y)}(h0:0<aC.length)(h:R Q B w0 (ap E v (aC.map (·.1))::kl') F)(hfs:∀w,(∀f∈F,f.p w)->(pG E aC).p w)(hk:az (ar E v aC) kl kl':=by exact gN):R Q B w0 kl F:=λw s=>
 h w (St.TQ h0 (hfs w s.facts) (s.gq hk))
end Go.Ideal
namespace Go.Ideal
variable {P:Program}
theorem bA.facts{Y:Type}{fn:Fn}{args cap:List Value}{kl:List OA}{F F2:List aO}{val:Y->Value}{kl':Y->List OA}{fs:Y->List aO}{pr:Y->Prop}(h:bA P fn args cap kl F val kl' fs pr)(hF:∀f∈F,f∈F2):bA P fn args cap kl F2 val kl' fs pr:=
 λB w s=>h B w ⟨s.agree,s.le,s.gF,s.own,λf hf=>s.facts f (hF f hf)⟩
section
variable {B:List Nat} {w0:Wd} {kl kl' bH:List OA} {F:List aO} {K:KO} {n:Nat} {l:List (Nat×Value)} {D:List Deferred} {pm:Option FrameMode} {ro:Option Nat}
end
section
variable {B:List Nat} {w0:Wd} {kl:List OA} {F:List aO}
end
end Go.Ideal
namespace Go.Ideal
variable {P:Program} {B:List Nat} {w0:Wd} {kl kl' bH:List OA} {F:List aO} {K:KO} {ds:List Tmp} {rest:List bV} {n:Nat} {l:List (Nat×Value)} {D:List Deferred} {pm:Option FrameMode} {ro:Option Nat} {d:Nat} {g:Option (Tmp×Bool)}
end Go.Ideal
namespace Go.Ideal
variable {P:Program}
