/-
  Part IdealOR.
-/
import Derived.Test.YtpkieeggilkagaaGreatIdealNR
set_option linter.all false
namespace Go.Ideal
variable {P:Program}
theorem Na{ρ:Operand->Value}{src dst:TypeId}{x:Operand}{kk k:IntKind}{n m:Int}{ds:TypeDesc}(hs:P.underlying src=some ds)(hd:P.underlying dst=some (.int k))(hx:ρ x=.int kk n)(hw:k.wrap n=m):Pu P ρ (.conv src dst x) (.int k m):=λh=>by
 have h1:eF P (convert src dst (.int kk n))=some (.int k m):=by
  unfold convert;rw[iy,rM hs];simp only[jd];rw[iy,rM hd];simp only[jd];rw[<- hw];rfl
 simp only[aG.run,hx,kQ,h1];rfl
theorem acR{a:Nat}(h:a<18446744073709551616):IntKind.u64.wrap (a:Int)=a:=by
 show(let m:=(a:Int)%(2^64:Int);if false&&m>=(2^63:Int)then m - (2^64:Int)else m)=_;simp only[Bool.false_and,u7,if_false];rw[Int.emod_eq_of_lt (by omega) (by simpa using(by omega:(a:Int)<18446744073709551616))]
theorem acS{ρ:Operand->Value}{x y:Operand}{t:TypeId}{a b:Nat}(hx:ρ x=.int .u64 (a:Int))(hy:ρ y=.int .u64 (b:Int))(hb:b<64):Pu P ρ (.bin .shr t x y) (.int .u64 ((a>>>b:Nat):Int)):=λh=>by
 have hv:eF P (binOp .shr t (.int .u64 (a:Int)) (.int .u64 (b:Int)))=some (.int .u64 ((a>>>b:Nat):Int)):=by
  show eF P (Op.shift .shr .u64 a .u64 b)=_;unfold Op.shift;rw[if_neg (by omega)];show some (Value.int .u64 ((a:Int).fdiv (2^(min (b:Int).toNat 64))))=_;rw[show min (b:Int).toNat 64=b by simp;omega,WY];congr 2;rw[show((2:Int)^b)=((2^b:Nat):Int)by simp,Int.fdiv_eq_ediv_of_nonneg _ (Int.natCast_nonneg _)];simp
 have h1:kQ P (do eqGuard .shr t x y (.int .u64 (a:Int)) (.int .u64 (b:Int));binOp .shr t (.int .u64 (a:Int)) (.int .u64 (b:Int)))=some (.int .u64 ((a>>>b:Nat):Int)):=by
  unfold kQ;rw[iy,Cq (by intro c e;cases e) (by intro e;cases e)];simp only[jd,hv];rfl
 have h2:l8 P .shr t x y (.int .u64 (a:Int)) (.int .u64 (b:Int))=some (.int .u64 ((a>>>b:Nat):Int)):=by
  unfold l8;have:(match uq .u64 .u64 with|true=>pJ .shr .u64 (a:Int) (b:Int)|false=>none)=none:=rfl;simp only[uq,cz,Kk,cond];exact h1
 simp only[aG.run,hx,hy,h2]
theorem acT{α:Type}[DecidableEq α]{bz:α->Value}{kt:TypeId}{d:TypeDesc}(hu:P.underlying kt=some d)(hn:∀a b,Instr.sameNow d (bz a) (bz b)=none)(he:∀a b,eF P (Op.equal kt (bz a) (bz b))=some (decide (a=b)))(a:α)(az:List (α×Value))(es:List MapEntry)(h:pu bz az es):sD P kt (bz a) es=some (pq a az 0):=by
 have xy:∀(az:List (α×Value)) (es:List MapEntry) (i:Nat),pu bz az es->eF P (Instr.findAsking kt (bz a) es i)=some (pq a az i):=by
  intro az;induction az with
  |nil=>
   intro es i h;cases es with
   |nil=>rfl
   |cons e es=>cases h
  |cons p az ih=>
   intro es i h;obtain⟨e,es',rfl,h1,h2,h3⟩:=MW h;unfold Instr.findAsking;rw[iy,h1,he];simp only[jd];unfold pq;by_cases hab:a=p.1
   ·rw[dQ hab,if_pos hab,h2];rfl
   ·rw[aS hab,if_neg hab];exact ih es' (i+1) h3
 unfold sD Instr.findKey;rw[iy,rM hu];simp only[jd];cases az with
 |nil=>
  cases es with
  |nil=>rfl
  |cons e es=>cases h
 |cons p az=>
  have h':=h;obtain⟨e,es',rfl,h1,h2,h3⟩:=MW h;have:Instr.findNow d (bz a) (e::es') 0=none:=by
   show(match Instr.sameNow d (bz a) e.key with
   |some true=>some (some (0,e.val))
   |some false=>Instr.findNow d (bz a) es' 1
   |none=>none)=_
   rw[h1,hn]
  rw[this];exact xy _ _ _ h'
abbrev Ay:Int×Int->Value:=λp=>.agg ⟨[.int .i64 p.1,.int .i64 p.2]⟩
theorem acU{kt e:TypeId}(hu:P.underlying kt=some (.array 2 e))(he:P.underlying e=some (.int .i64))(hs:P.info? e|>.map (·.size)|>(·=some 1))(hc:∀a b:Int,ru P kt (.agg ⟨[.int .i64 a,.int .i64 b]⟩)=true):rP P kt Ay where
 E8 a:=hc a.1 a.2
 find a az es h:=acT hu (λa b=>rfl) (λa b=>by
  have:=Tf (d:=9998) (xs:=[a.1,a.2]) (ys:=[b.1,b.2]) hu he hs rfl rfl;rw[show decide (a=b)=decide ([a.1,a.2]=[b.1,b.2])from l6.2 ⟨λh=>by rw[h],λh=>by
   injection h with h1 h2;injection h2 with h2;exact Prod.ext h1 h2⟩]
  exact this) a az es h
 same a:=by
  show((⟨[Value.int .i64 a.1,.int .i64 a.2]⟩:Array Value).size==(⟨[Value.int .i64 a.1,.int .i64 a.2]⟩:Array Value).size&&(List.zip [Value.int .i64 a.1,.int .i64 a.2] [Value.int .i64 a.1,.int .i64 a.2]).all λ(x,y)=>Instr.sameBits 9999 x y)=true;simp[Instr.sameBits]
end Go.Ideal
namespace Go.Ideal
section
variable {P:Program}
variable {ds:List Tmp} {rest:List bT} {n:Nat} {l:List (Nat×Value)} {D:List Deferred} {pm:Option FrameMode} {ro:Option Nat} {h:IH} {K:KO} {d:Nat} {g:Option (Tmp×Bool)}
theorem Tm{op:aG}{v:Value}{h':IH}{re:List iD}(hn:Nat.blt d n=true)(hg:bW l g=true)(hr:op.run P (ev l) h=some (v,h'))
 (hsm:∀q∈re,∃u h2,q.op.run P (ev ((d,v)::l)) h'=some (u,h2)/\∀d',q.dst=some d'->lk ((d,v)::l) d'=u)
 (next:aK P ds rest (act n ((d,v)::l) D pm ro) h' K):aK P ds (⟨⟨some d,g,op⟩,re⟩::rest) (act n l D pm ro) h K:=
 .lq (vK hg) v h' (by rw[nK];exact hr) (λq hq _=>by
  obtain⟨u,h2,e1,e2⟩:=hsm q hq;rw[pV hn];exact⟨u,h2,by rw[nK];exact e1,λd' hd=>by rw[<- e2 d' hd];exact uJ _ _⟩) (by rw[pV hn];exact next)
theorem acV{re:List iD}{e:TypeId}{size bytes b o m k:Nat}{f:Option Nat}{s x:Operand}{old xs:List Value}(hn:Nat.blt d n=true)(hg:bW l g=true)
 (hs:ev l s=.slice (some ⟨b,o,f⟩) m m) (hx:oZ (ev l x)=some (k+1)) (hxs:nE size (k+1) (ev l x) h=some xs) (hold:h.je b o (m*size)=some old)
 (hf:f=some 0\/f=some size) (hm:(m+(k+1))*bytes<=1073741824/\(m+(k+1))*size<=1073741824/\m+(k+1)<=1073741824)
 (hsm:∀h',Ae h h' b (.cells (old++xs))->∀q∈re,∃u h2,q.op.run P (ev ((d,.slice (some ⟨h.next,0,some size⟩) (m+(k+1)) (m+(k+1)))::l)) h'=some (u,h2)/\∀d',q.dst=some d'->lk ((d,.slice (some ⟨h.next,0,some size⟩) (m+(k+1)) (m+(k+1)))::l) d'=u)
 (next:∀h',Ae h h' b (.cells (old++xs))->aK P ds rest (act n ((d,.slice (some ⟨h.next,0,some size⟩) (m+(k+1)) (m+(k+1)))::l) D pm ro) h' K):
 aK P ds (⟨⟨some d,g,.append e size bytes s x⟩,re⟩::rest) (act n l D pm ro) h K:=by
 have hle:∀{a b:Nat},a<=b->Nat.ble a b=true:=λh=>by rw[tZ];exact h
 have hlt:Nat.ble (m+(k+1)) m=false:=by
  cases hb:Nat.ble (m+(k+1)) m with
  |false=>rfl
  |true=>have:=mI hb;omega
 have hc:(Nat.ble (Nat.mul (m+(k+1)) bytes) small&&Nat.ble (Nat.mul (m+(k+1)) size) small&&Nat.ble (m+(k+1)) small)=true:=by
  rw[hle (show Nat.mul (m+(k+1)) bytes<=small from hm.1),hle (show Nat.mul (m+(k+1)) size<=small from hm.2.1),hle (show m+(k+1)<=small from hm.2.2)];rfl
 have hrun:∃h',(aG.append e size bytes s x).run P (ev l) h=some (.slice (some ⟨h.next,0,some size⟩) (m+(k+1)) (m+(k+1)),h')/\Ae h h' b (.cells (old++xs)):=by
  have Af:yC size (k+1) (ev l x) h=some xs:=hxs;simp only[aG.run,hx,Af,hs,wG];have e1:nE size m (.slice (some ⟨b,o,f⟩) m m) h=some old:=hold;show∃h',(cond (Nat.ble (Nat.mul (m+(k+1)) bytes) small&&Nat.ble (Nat.mul (m+(k+1)) size) small&&Nat.ble (m+(k+1)) small) _ _)=_/\_;rw[hc];show∃h',(cond (Nat.ble (m+(k+1)) m) _ _)=_/\_;rw[hlt];simp only[cond,e1];rcases hf with rfl|rfl
  ·refine⟨_,rfl,?_⟩;exact⟨rfl,λi hi _=>by rw[IH.jk,if_neg (by omega)],⟨uX _,by rw[IH.jk,if_pos rfl,jS]⟩,λ_=>rfl⟩
  ·cases size with
   |zero=>
    refine⟨_,rfl,?_⟩;exact⟨rfl,λi hi _=>by rw[IH.jk,if_neg (by omega)],⟨uX _,by rw[IH.jk,if_pos rfl,jS]⟩,λ_=>rfl⟩
   |succ j=>
    have hj:Nat.beq (Nat.succ j) (j+1)=true:=Gh _;refine⟨(h.kill b).new (.cells (old++xs)),?_,?_⟩
    ·show cond (Nat.beq (Nat.succ j) (j+1)) _ _=_;rw[hj,jS];rfl
    ·exact⟨rfl,λi hi hb=>by rw[IH.jk,if_neg (by show i≠h.next;omega),IH.uy,if_neg hb],⟨uX _,by rw[IH.jk];exact if_pos rfl⟩,λhl=>by rw[IH.KJ,IH.zT];omega⟩
 obtain⟨h',hr,hM⟩:=hrun;exact Tm hn hg hr (hsm h' hM) (next h' hM)
theorem acW{re:List iD}{e:TypeId}{size bytes k c:Nat}{s x:Operand}{xs:List Value}(hn:Nat.blt d n=true)(hg:bW l g=true)
 (hs:ev l s=.slice none 0 0) (hx:oZ (ev l x)=some (k+1)) (hxs:nE size (k+1) (ev l x) h=some xs)
 (hm:(k+1)*bytes<=1073741824/\(k+1)*size<=1073741824/\(k+1)<=1073741824)
 (hsm:∀h',Agree h h'->At h' h.next (.cells xs)->h'.next=h.next+1->∀q∈re,∃u h2,q.op.run P (ev ((d,.slice (some ⟨h.next,0,some size⟩) (k+1) (k+1))::l)) h'=some (u,h2)/\∀d',q.dst=some d'->lk ((d,.slice (some ⟨h.next,0,some size⟩) (k+1) (k+1))::l) d'=u)
 (next:∀h',Agree h h'->At h' h.next (.cells xs)->h'.next=h.next+1->aK P ds rest (act n ((d,.slice (some ⟨h.next,0,some size⟩) (k+1) (k+1))::l) D pm ro) h' K):
 aK P ds (⟨⟨some d,g,.append e size bytes s x⟩,re⟩::rest) (act n l D pm ro) h K:=by
 have hle:∀{a b:Nat},a<=b->Nat.ble a b=true:=λh=>by rw[tZ];exact h
 have e0:Nat.add 0 (k+1)=k+1:=fC _;refine Tm hn hg (h':=h.new (.cells xs)) ?_ (hsm _ (Me _ _) (Mf _ _) rfl) (next _ (Me _ _) (Mf _ _) rfl);have Af:yC size (k+1) (ev l x) h=some xs:=hxs;simp only[aG.run,hx,Af,hs,wG,e0];rw[hle (show Nat.mul (k+1) bytes<=small from hm.1),hle (show Nat.mul (k+1) size<=small from hm.2.1),hle (show k+1<=small from hm.2.2)];have e1:nE size 0 (.slice none 0 0) h=some []:=by
  show(match (0:Nat)with|0=>some ([]:List Value)|_=>none)=_;rfl
 have e2:Nat.ble (k+1) 0=false:=rfl;simp only[Kk,cond_true,e2,cond_false,e1,jS,bY]
end
section
variable {P:Program}
variable {ρ:Operand->Value}
variable {B:List Nat} {w0:Wd} {kl kl':List OA} {F:List aL} {a:aX} {K:KO}
variable {y:dm} {i j m0:Nat} {I:Nat->aX->IH->Prop} {ch:List PanicEntry}
variable {B:List Nat} {w0:Wd} {kl kl':List OA} {F:List aL} {K:KO} {ds:List Tmp} {rest:List bT} {n:Nat} {l:List (Nat×Value)} {D:List Deferred} {pm:Option FrameMode} {ro:Option Nat} {d:Nat} {g:Option (Tmp×Bool)}
theorem acX{re:List iD}{α:Type}{E:Enc α}{e:TypeId}{size bytes b':Nat}{s x:Operand}{v:Value}{xs:List α}{a:α}{y:E.Y}{cs:List Value}{k1 k2:List OA}(hn:Nat.blt d n=true)(hg:bW l g=true)
 (hs:ev l s=v) (hx:ev l x=.slice (some ⟨b',0,some 0⟩) 1 1) (hk:aA (ap E v xs) kl k1) (hc:aA (pt b' (.cells cs)) k1 k2) (hp:cs=E.pat a y) (hF:Sub (E.fs a y) F) (hz:E.n=size)
 (hm:(xs.length+1)*bytes<=1073741824/\(xs.length+1)*size<=1073741824/\xs.length+1<=1073741824)
 (hsm:∀ad,Same P re (ev ((d,.slice ad (xs.length+1) (xs.length+1))::l)) ((d,.slice ad (xs.length+1) (xs.length+1))::l) B w0 (ap E (.slice ad (xs.length+1) (xs.length+1)) (xs++[a])::k2) F)
 (r:∀ad,R (λh=>aK P ds rest (act n ((d,.slice ad (xs.length+1) (xs.length+1))::l) D pm ro) h K) B w0 (ap E (.slice ad (xs.length+1) (xs.length+1)) (xs++[a])::k2) F):
 R (λh=>aK P ds (⟨⟨some d,g,.append e size bytes s x⟩,re⟩::rest) (act n l D pm ro) h K) B w0 kl F:=by
 intro w st;subst hp hz;have hlen:=E.len a y;have st2:St B w0 (ap E v xs::pt b' (.cells (E.pat a y))::k2) F w:=st.jH (.cons hk (.cons hc .nil));have hat:At w.h b' (.cells (E.pat a y)):=st2.at_ (.there .here);have rJ:St B w0 (ap E v xs::k2) F w:=(st2.fZ (.there .here)).tail;have hfs:∀f∈E.fs a y,f.p w:=λf hf=>st.facts f (hF.mem f hf);have hread:w.h.je b' 0 (1*E.n)=some (E.pat a y):=by
  rw[hat.c.je,rD,sJ,ug,DC,if_pos (by omega),<- hlen,bC]
 have hx1:oZ (ev l x)=some (0+1):=by rw[hx];rfl
 have hx2:nE E.n (0+1) (ev l x) w.h=some (E.pat a y):=by rw[hx];exact hread
 -- what lies there afterwards
 have put:∀(w':Wd) (c:Nat) (f:Nat) (cells:List Value),cells.length=xs.length*E.n->(∀(k:Nat) z,xs[k]? =some z->∃y,(∀(j:Nat) u,(E.pat z y)[j]? =some u->cells[k*E.n+j]? =some u)/\∀f∈E.fs z y,f.p w')->(∀f∈E.fs a y,f.p w')->
  (f=0\/f=E.n)->∀S,(pt c (.cells (cells++E.pat a y))).p w' S->(ap E (.slice (some ⟨c,0,some f⟩) (xs.length+1) (xs.length+1)) (xs++[a])).p w' S:=by
  intro w' c f cells h1 h2 h3 h4 S hp;refine .inr ⟨c,0,f,_,by rw[gU];rfl,h4,hp.1,hp.2,by rw[gU,gU,h1,hlen,uh,qo,ug,fC],λk z hk=>?_⟩;by_cases hlt:k<xs.length
  ·rw[qY hlt]at hk;obtain⟨y',q1,q2⟩:=h2 k z hk;refine⟨y',λj u hj=>?_,q2⟩;rw[fC];have:=q1 j u hj;rw[qY (bK.1 this).1];exact this
  ·rw[uZ (by omega)]at hk;have hk0:k=xs.length:=by
    have:=(bK.1 hk).1;simp at this;omega
   subst hk0;simp at hk;subst hk;refine⟨y,λj u hj=>?_,h3⟩;rw[fC,uZ (by omega),h1,WX];exact hj
 obtain⟨S,⟨S1,S2,q,q2,e1⟩,hnd,hown⟩:=rJ.own;rcases q with⟨rfl,rfl,rfl⟩|⟨b,o,f,cells,rfl,hf,rfl,hb,hcl,hel⟩
 ·have key:∀h',Agree w.h h'->At h' w.h.next (.cells (E.pat a y))->h'.next=w.h.next+1->∃w':Wd,w'.h=h'/\St B w0 (ap E (.slice (some ⟨w.h.next,0,some E.n⟩) (([]:List α).length+1) (([]:List α).length+1)) ([]++[a])::k2) F w':=λh' ag wZ hnx=>by
   obtain⟨w',rfl,lU⟩:=rJ.tail.fresh ag wZ hnx;refine⟨w',rfl,?_⟩;have hle:∀f∈E.fs a y,f.p w':=λf hf=>lU.facts f (hF.mem f hf);exact lU.Ai λS hp=>put w' _ E.n [] (by simp) (λk z hk=>by cases hk) hle (.inr rfl) S hp
  refine acW (c:=0) hn hg hs hx1 hx2 (by simpa using hm) (λh' ag wZ hnx=>?_) λh' ag wZ hnx=>?_
  ·obtain⟨w',rfl,lU⟩:=key h' ag wZ hnx;exact hsm _ w' lU
  ·obtain⟨w',rfl,lU⟩:=key h' ag wZ hnx;exact r _ w' lU
 ·have ER:St B w0 (pt b (.cells cells)::k2) F w:=⟨rJ.agree,rJ.le,rJ.gp,⟨S,⟨_,S2,⟨rfl,hb⟩,q2,e1⟩,hnd,hown⟩,rJ.facts⟩
  have MB:At w.h b (.cells cells):=ER.at_ .here;have key:∀h',Ae w.h h' b (.cells (cells.drop o++E.pat a y))->∃w':Wd,w'.h=h'/\St B w0 (ap E (.slice (some ⟨w.h.next,0,some E.n⟩) (xs.length+1) (xs.length+1)) (xs++[a])::k2) F w':=λh' mv=>by
   obtain⟨w',rfl,lU,Iu⟩:=ER.move mv;refine⟨w',rfl,lU.Ai λS hp=>?_⟩;have hle:∀f∈E.fs a y,f.p w':=λf hf=>lU.facts f (hF.mem f hf);refine put w' _ E.n (cells.drop o) (by rw[ww];omega) (λk z hk=>?_) hle (.inr rfl) S hp;obtain⟨y',u1,u2⟩:=hel k z hk;exact⟨y',λj u hj=>by rw[qX,<- qm];exact u1 j u hj,λf hf=>f.mono Iu (u2 f hf)⟩
  refine acV (old:=cells.drop o) (xs:=E.pat a y) hn hg hs hx1 hx2 ?_ (hf.elim (λe=>.inl (by rw[e])) λe=>.inr (by rw[e])) hm (λh' mv=>?_) λh' mv=>?_
  ·have hdl:(cells.drop o).length=xs.length*E.n:=by rw[ww];omega
   rw[MB.c.je,rD,sJ,if_pos (by omega),<- hdl,bC]
  ·obtain⟨w',rfl,lU⟩:=key h' mv;exact hsm _ w' lU
  ·obtain⟨w',rfl,lU⟩:=key h' mv;exact r _ w' lU
end
section
variable {P:Program} {B:List Nat} {w0:Wd} {kl kl' bA:List OA} {F:List aL} {K:KO} {n:Nat} {l:List (Nat×Value)} {D:List Deferred} {pm:Option FrameMode} {ro:Option Nat}
theorem Tn{re:List iD}{α:Type}(E:Enc α){ds:List Tmp}{rest:List bT}{d:Nat}{g:Option (Tmp×Bool)}{e:TypeId}{size bytes b':Nat}{s x:Operand}{v:Value}{xs:List α}(a:α)(y:E.Y){cs:List Value}{k1 k2:List OA}
 (hm:(xs.length+1)*bytes<=1073741824/\(xs.length+1)*size<=1073741824/\xs.length+1<=1073741824)
 (next:∀ad,R (λh=>aK P ds rest (act n ((d,.slice ad (xs.length+1) (xs.length+1))::l) D pm ro) h K) B w0 (ap E (.slice ad (xs.length+1) (xs.length+1)) (xs++[a])::k2) F)
 (hn:Nat.blt d n=true:=by rfl) (hg:bW l g=true:=by rfl)
 (hs:ev l s=v:=by conv=>lhs;whnf) (hx:ev l x=.slice (some ⟨b',0,some 0⟩) 1 1:=by rfl) (hk:aA (ap E v xs) kl k1:=by exact gz) (hc:aA (pt b' (.cells cs)) k1 k2:=by exact gz) (hp:cs=E.pat a y:=by rfl) (hF:Sub (E.fs a y) F:=by exact mg) (hz:E.n=size:=by rfl)
 (hsm:∀ad,Same P re (ev ((d,.slice ad (xs.length+1) (xs.length+1))::l)) ((d,.slice ad (xs.length+1) (xs.length+1))::l) B w0 (ap E (.slice ad (xs.length+1) (xs.length+1)) (xs++[a])::k2) F:=by intro _;repeat (first|exact Cr|refine Cs rfl (by repeat (first|with_reducible exact aA.here|with_reducible apply aA.there|with_reducible apply aA.app)) (by first|exact rfl|(conv=>lhs;whnf)) rfl ?_|refine ES rfl (by(repeat (first|with_reducible exact dJ .. |with_reducible apply dN));first|done|fail) (by first|exact rfl|(conv=>lhs;whnf)) rfl ?_|refine ET rfl (by(repeat (first|with_reducible exact dJ .. |with_reducible apply dN));first|done|fail) (by first|exact rfl|(conv=>lhs;whnf)) rfl ?_|refine EU rfl (by repeat (first|with_reducible exact aA.here|with_reducible apply aA.there|with_reducible apply aA.app)) (by first|exact rfl|(conv=>lhs;whnf)) rfl ?_|refine EW rfl (by(repeat (first|with_reducible exact dJ .. |with_reducible apply dN));first|done|fail) (by first|exact rfl|(conv=>lhs;whnf)) rfl ?_|refine EX rfl (by(repeat (first|with_reducible exact dJ .. |with_reducible apply dN));first|done|fail) (by first|exact rfl|(conv=>lhs;whnf)) rfl ?_|refine R8 (by first|((with_reducible apply Hu);(focus ((conv=>lhs;whnf);(first|done|fail))))|((with_reducible apply Hw);(focus ((conv=>lhs;whnf);(first|done|fail))))|((with_reducible apply HY);(focus exact rfl))|((with_reducible apply H6);(focus exact rfl);(focus exact rfl))|((with_reducible apply H7);(focus exact rfl);(focus exact rfl))|((with_reducible apply H8);(focus exact rfl);(focus exact rfl))|((with_reducible apply H9);(focus exact rfl);(focus exact rfl))|((with_reducible apply Ia);(focus exact rfl);(focus exact rfl))|((with_reducible apply Ib);(focus exact rfl);(focus exact rfl))|((with_reducible apply HV);(focus exact rfl))|((with_reducible apply Hy);(focus exact rfl);(focus ((conv=>lhs;whnf);(first|done|fail))))|((with_reducible apply Hz);(focus exact rfl);(focus ((conv=>lhs;whnf);(first|done|fail))))|((with_reducible apply Ie);(focus exact rfl);(focus ((conv=>lhs;whnf);(first|done|fail))))|((with_reducible apply Ig);(focus exact rfl))|((with_reducible apply Ih);(focus exact rfl);(focus ((conv=>lhs;whnf);(first|done|fail))))|((with_reducible apply Ii);(focus exact rfl);(focus ((conv=>lhs;whnf);(first|done|fail))))|((with_reducible apply Ij);(focus ((conv=>lhs;whnf);(first|done|fail))))|((with_reducible apply Ik);(focus exact rfl))|((with_reducible apply Il);(focus exact rfl))|((with_reducible apply Im);(focus exact rfl))|with_reducible exact HZ|((with_reducible apply Io);(focus exact rfl);(focus exact rfl);(focus exact rfl))|((with_reducible apply IE);(focus exact rfl);(focus exact rfl);(focus ((omega);(first|done|fail))))|((with_reducible apply EQ);(focus exact rfl);(focus exact rfl);(focus ((omega);(first|done|fail)));(focus ((omega);(first|done|fail))))|((with_reducible apply Ip);(focus exact rfl);(focus exact rfl);(focus ((omega);(first|done|fail)));(focus ((omega);(first|done|fail))))|((with_reducible apply Co);(focus exact rfl);(focus exact rfl);(focus ((omega);(first|done|fail)));(focus ((omega);(first|done|fail))))|((with_reducible apply Ic);(focus exact rfl);(focus exact rfl);(focus ((omega);(first|done|fail)));(focus ((omega);(first|done|fail))))|((with_reducible apply Iw);(focus exact rfl);(focus exact rfl);(focus ((first|assumption|kernel_rfl);(first|done|fail))))|((with_reducible apply Iy);(focus exact rfl);(focus exact rfl);(focus ((first|assumption|kernel_rfl);(first|done|fail))))|((with_reducible apply Iz);(focus exact rfl);(focus exact rfl))|((with_reducible apply IA);(focus exact rfl);(focus exact rfl))|((with_reducible apply IB);(focus exact rfl);(focus exact rfl);(focus ((omega);(first|done|fail)));(focus ((omega);(first|done|fail))))) rfl ?_)):
 R (λh=>aK P ds (⟨⟨some d,g,.append e size bytes s x⟩,re⟩::rest) (act n l D pm ro) h K) B w0 kl F:=
 acX hn hg hs hx hk hc hp hF hz hm hsm next
end
end Go.Ideal
namespace Go.Ideal
variable {P:Program}
section
variable {α κ:Type} [DecidableEq κ] {bz:κ->Value} {E:Enc α}
def nZ(E:Enc α):List (κ×Value)->List (κ×List α)->List OA
 |p::az,q::m=>ap E p.2 q.2::nZ E az m
 |_,_=>[]
def tu(E:Enc α)(n:κ):List (κ×Value)->List (κ×List α)->List OA
 |p::az,q::m=>if n=p.1 then nZ E az m else ap E p.2 q.2::tu E n az m
 |_,_=>[]
def Fg(bz:κ->Value)(E:Enc α)(b:Nat)(m:List (κ×List α)):OA:=
 ⟨λw S=>∃az:List (κ×Value),az.map (·.1)=m.map (·.1)/\eU w (gQ bz b az::nZ E az m) S,λa h ⟨az,h1,h2⟩=>⟨az,h1,eU.loc a h h2⟩⟩
def Tp(E:Enc α)(n:κ)(az:List (κ×Value))(m:List (κ×List α)):OA:=⟨λw S=>eU w (tu E n az m) S,λa h hp=>eU.loc a h hp⟩
def Tq(E:Enc α)(az:List (κ×Value))(m:List (κ×List α)):OA:=⟨λw S=>eU w (nZ E az m) S,λa h hp=>eU.loc a h hp⟩
def Tt(E:Enc α)(az:List (κ×Value))(m:List (κ×List α)):aL:=
 ⟨λw=>∀n v xs,dL n az=some v->dL n m=some xs->(ah E v xs).p w,λa h n v xs h1 h2=>(ah E v xs).mono a (h n v xs h1 h2)⟩
theorem Nb{β γ:Type}{n:κ}:∀{az:List (κ×β)} {m:List (κ×γ)},az.map (·.1)=m.map (·.1)->(dL n az=none↔dL n m=none)
 |[],[],_=>⟨λ_=>rfl,λ_=>rfl⟩
 |(a,u)::az,(b,x)::m,h=>by
  rw[ik,ik]at h;injection h with h1 h2;have h1:a=b:=h1;subst h1;unfold dL;by_cases e:n=a
  ·rw[if_pos e,if_pos e];exact⟨λh=>(nomatch h),λh=>(nomatch h)⟩
  ·rw[if_neg e,if_neg e];exact Nb h2
 |[],_::_,h=>by cases h
 |_::_,[],h=>by cases h
theorem Tu{n:κ}:∀{az:List (κ×Value)} {m:List (κ×List α)},dL n az=none->tu E n az m=nZ E az m
 |[],_,_=>by unfold tu nZ;rfl
 |_::_,[],_=>by unfold tu nZ;rfl
 |(a,u)::az,(b,x)::m,h=>by
  unfold dL at h;by_cases e:n=a
  ·rw[if_pos e]at h;cases h
  ·rw[if_neg e]at h;unfold tu nZ;rw[if_neg e,Tu h]
theorem Nc{n:κ}{v:Value}{xs:List α}:∀{az:List (κ×Value)} {m:List (κ×List α)},az.map (·.1)=m.map (·.1)->dL n az=some v->dL n m=some xs->aA (ap E v xs) (nZ E az m) (tu E n az m)
 |[],_,_,h,_=>by cases h
 |_::_,[],h,_,_=>by cases h
 |(a,u)::az,(b,x)::m,h,h1,h2=>by
  rw[ik,ik]at h;injection h with e1 e2;have e1:a=b:=e1;subst e1;unfold dL at h1 h2;unfold nZ tu;by_cases e:n=a
  ·rw[if_pos e]at h1 h2⊢;cases h1;cases h2;exact .here
  ·rw[if_neg e]at h1 h2⊢;exact .there (Nc e2 h1 h2)
theorem Tv{n:κ}{v:Value}{xs:List α}:∀{az:List (κ×Value)} {m:List (κ×List α)},az.map (·.1)=m.map (·.1)->aA (ap E v xs) (nZ E (upd n v az) (upd n xs m)) (tu E n az m)
 |[],[],_=>by unfold upd tu nZ nZ;exact .here
 |[],_::_,h=>by cases h
 |_::_,[],h=>by cases h
 |(a,u)::az,(b,x)::m,h=>by
  rw[ik,ik]at h;injection h with e1 e2;have e1:a=b:=e1;subst e1;unfold upd tu;by_cases e:n=a
  ·rw[if_pos e,if_pos e,if_pos e];rw[show nZ E ((n,v)::az) ((n,xs)::m)=ap E v xs::nZ E az m from rfl];exact .here
  ·rw[if_neg e,if_neg e,if_neg e];rw[show nZ E ((a,u)::upd n v az) ((a,x)::upd n xs m)=ap E u x::nZ E (upd n v az) (upd n xs m)from rfl];exact .there (Tv e2)
theorem Fh{β γ:Type}{n:κ}{v:β}{x:γ}:∀{az:List (κ×β)} {m:List (κ×γ)},az.map (·.1)=m.map (·.1)->(upd n v az).map (·.1)=(upd n x m).map (·.1)
 |[],[],_=>rfl
 |[],_::_,h=>by cases h
 |_::_,[],h=>by cases h
 |(a,u)::az,(b,y)::m,h=>by
  rw[ik,ik]at h;injection h with e1 e2;have e1:a=b:=e1;subst e1;unfold upd;by_cases e:n=a
  ·rw[if_pos e,if_pos e,ik,ik,e2]
  ·rw[if_neg e,if_neg e,ik,ik,Fh e2]
variable {B:List Nat} {w0:Wd} {kl kl' bA k1 k2:List OA} {F:List aL} {Q:IH->Prop} {b:Nat} {m:List (κ×List α)}
theorem acY(E:Enc α)(h:R Q B w0 (Fg bz E b ([]:List (κ×List α))::kl') F)(hk:aA (gQ bz b []) kl kl':=by exact gz):R Q B w0 kl F:=
 .perm (λw S hS=>by
  obtain⟨S',⟨T1,T2,u1,u2,e⟩,hp⟩:=hS.fZ hk;exact⟨S',⟨T1,T2,⟨[],rfl,T1,[],u1,rfl,by simp⟩,u2,e⟩,hp⟩) h
theorem acZ(n:κ)(hk:aA (Fg bz E b m) kl kl':=by exact gz)
 (h:∀(az:List (κ×Value)) (v:Value),az.map (·.1)=m.map (·.1)->kW false (.slice none 0 0) n az=v->R Q B w0 (gQ bz b az::ap E v ((dL n m).getD [])::Tp E n az m::kl') F):R Q B w0 kl F:=λw s=>by
 obtain⟨S,⟨S1,S2,⟨az,hkeys,T1,T2,u1,u2,e1⟩,q2,e⟩,hnd,hall⟩:=(s.fZ hk).own;have key:∃T',eU w (ap E (kW false (.slice none 0 0) n az) ((dL n m).getD [])::tu E n az m) T'/\T2.Perm T':=by
  cases hl:dL n az with
  |none=>
   have hm:=(Nb (n:=n) hkeys).1 hl;have e1:kW false (.slice none 0 0) n az=.slice none 0 0:=by unfold kW;rw[hl];rfl
   rw[e1,hm,Tu hl];exact⟨T2,⟨[],T2,.inl ⟨rfl,rfl,rfl⟩,u2,rfl⟩,.refl _⟩
  |some v=>
   cases hm:dL n m with
   |none=>rw[(Nb (n:=n) hkeys).2 hm]at hl;cases hl
   |some xs=>
    have e1:kW false (.slice none 0 0) n az=v:=by unfold kW;rw[hl];rfl
    rw[e1];exact u2.fZ (Nc hkeys hl hm)
 obtain⟨T',⟨T3,T4,u3,u4,e3⟩,hp⟩:=key;subst e e1 e3;have hperm:((T1++T2)++S2).Perm (T1++(T3++(T4++S2))):=by
  rw[fI];refine List.Perm.append_left T1 ?_;rw[<- fI];exact List.Perm.append_right S2 hp
 exact h az _ hkeys rfl w ⟨s.agree,s.le,s.gp,⟨_,⟨T1,_,u1,⟨T3,_,u3,⟨T4,S2,u4,q2,rfl⟩,rfl⟩,rfl⟩,hperm.nodup hnd,λi hi=>hall i (hperm.mem_iff.2 hi)⟩,s.facts⟩
theorem ac0(n:κ){az:List (κ×Value)}{v:Value}{xs:List α}(hkeys:az.map (·.1)=m.map (·.1))(h:R Q B w0 (Fg bz E b (upd n xs m)::bA) F)
 (h1:aA (gQ bz b (upd n v az)) kl k1:=by exact gz) (h2:aA (ap E v xs) k1 k2:=by exact gz) (h3:aA (Tp E n az m) k2 bA:=by exact gz):R Q B w0 kl F:=
 .perm (λw S hS=>by
  obtain⟨S1,S2,q1,q2,hp⟩:=hS.jH (.cons h1 (.cons h2 (.cons h3 .nil)));obtain⟨T1,U1,u1,⟨T2,U2,u2,⟨T3,U3,u3,u4,e3⟩,e2⟩,e1⟩:=q1;have u4:U3=[]:=u4;subst u4 e3 e2 e1;obtain⟨V,v1,v2⟩:=eU.IU (Tv (E:=E) (n:=n) (v:=v) (xs:=xs) hkeys) (S:=T2++T3) (w:=w) ⟨T2,T3,u2,u3,rfl⟩;refine⟨(T1++V)++S2,⟨T1++V,S2,⟨upd n v az,Fh hkeys,⟨T1,V,u1,v1,rfl⟩⟩,q2,rfl⟩,hp.trans ?_⟩;rw[gV];exact List.Perm.append_right S2 (List.Perm.append_left T1 v2)) h
theorem ac3(h:∀az:List (κ×Value),az.map (·.1)=m.map (·.1)->R Q B w0 (gQ bz b az::Tq E az m::kl') F)(hk:aA (Fg bz E b m) kl kl':=by exact gz):R Q B w0 kl F:=λw s=>by
 obtain⟨S,⟨S1,S2,⟨az,hkeys,T1,T2,u1,u2,e1⟩,q2,e⟩,hnd,hall⟩:=(s.fZ hk).own;subst e e1;refine h az hkeys w ⟨s.agree,s.le,s.gp,⟨T1++(T2++S2),⟨T1,_,u1,⟨T2,S2,u2,q2,rfl⟩,rfl⟩,?_,λi hi=>hall i ?_⟩,s.facts⟩
 ·rw[<- fI];exact hnd
 ·rw[fI];exact hi
theorem ac4{az:List (κ×Value)}(hkeys:az.map (·.1)=m.map (·.1)):rH (Tq E az m) [Tt E az m]:=by
 intro w w' S hS hle hh hz f hf;rw[bM.1 hf];have hS:eU w (nZ E az m) S:=hS;clear hf;intro n v xs h1 h2;obtain⟨S',⟨T1,T2,u1,_,e⟩,hp⟩:=hS.fZ (Nc hkeys h1 h2);subst e;exact fG w w' T1 u1 hle hh (λi hi=>hz i (hp.mem_iff.2 (kZ _ hi))) _ (bM.2 rfl)
end
end Go.Ideal
namespace Go.Ideal
variable {P:Program} {B:List Nat} {w0:Wd} {kl kl' bA:List OA} {F:List aL} {K:KO} {ds:List Tmp} {rest:List bT} {n:Nat} {l:List (Nat×Value)} {D:List Deferred} {pm:Option FrameMode} {ro:Option Nat} {d:Nat} {g:Option (Tmp×Bool)}
theorem I8{α:Type}(E:Enc α){x i:Operand}{v:Value}{xss:List (List α)}(k:Nat)(xs:List α){kk:IntKind}{d2:Nat}{g2:Option (Tmp×Bool)}(hz:xss[k]? =some xs)
 (next:∀b o u,R (λh=>aK P ds rest (act n ((d2,u)::(d,.pointer (some ⟨b,o,none⟩))::l) D pm ro) h K) B w0 kl (ah E u xs::F))
 (hn:Nat.blt d n=true:=by rfl) (hg:bW l g=true:=by rfl) (hn2:Nat.blt d2 n=true:=by rfl) (hg2:∀u,bW ((d,u)::l) g2=true:=by intro _;rfl) (hx:ev l x=v:=by conv=>lhs;whnf) (hi:ev l i=.int kk (k:Int):=by rfl)
 (hk:aA (ap (ax E) v xss) kl kl':=by exact gz):
 R (λh=>aK P ds (⟨⟨some d,g,.nT 1 x i⟩,[]⟩::⟨⟨some d2,g2,.gT (.tmp d)⟩,[]⟩::rest) (act n l D pm ro) h K) B w0 kl F:=by
 intro w s;have s1:=s.fZ hk;obtain⟨S,⟨S1,S2,p,p2,e⟩,h2,h3⟩:=s1.own;have hlt:=(bK.1 hz).1;rcases p with⟨h,_⟩|⟨b,o,f,cells,e1,hf,e2,hb,hcl,hel⟩
 ·rw[h]at hz;cases hz
 ·subst e1;obtain⟨y,u1,u2⟩:=hel k xs hz;have hc:cells[o+(k:Int).toNat*1]? =some y:=by
   have:=u1 0 y rfl;simpa[ax]using this
  refine Mj hn hg hx hi (by omega) (by omega) ?_;have hbS:b∈S:=by rw[e,e2];simp
  refine Ho hn2 (hg2 _) (by show lk _ d=_;simp[lk]) ⟨(h3 b hbS).2.1,hb⟩ hc (next _ _ y w ⟨s.agree,s.le,s.gp,s.own,λf hf=>?_⟩);rcases dG.1 hf with rfl|hf
  ·exact u2 _ (bM.2 rfl)
  ·exact s.facts f hf
end Go.Ideal
namespace Go.Ideal
variable {P:Program} {B:List Nat} {w0:Wd} {kl kl' bA k1 k2:List OA} {F:List aL} {Q:IH->Prop}
section
variable {β:Type} (A:Value->β->OA)
def tC(vs:List Value)(xss:List β):List OA:=(vs.zip xss).map λp=>A p.1 p.2
def og(b:Nat)(xss:List β):OA:=
 ⟨λw S=>∃vs:List Value,vs.length=xss.length/\eU w (pt b (.cells vs)::tC A vs xss) S,λa h ⟨vs,h1,h2⟩=>⟨vs,h1,eU.loc a h h2⟩⟩
def Tw(vs:List Value)(xss:List β)(k:Nat):OA:=
 ⟨λw S=>eU w ((tC A vs xss).eraseIdx k) S,λa h hp=>eU.loc a h hp⟩
theorem Tx{vs:List Value}{xss:List β}{k:Nat}{v:Value}{xs:β}(hv:vs[k]? =some v)(hx:xss[k]? =some xs):(tC A vs xss)[k]? =some (A v xs):=by
 simp[tC,List.zip,fw,PD,hv,hx]
theorem Ty{b:Nat}{xss:List β}{k:Nat}{xs:β}(hx:xss[k]? =some xs)(hk:aA (og A b xss) kl kl':=by exact gz)
 (h:∀(vs:List Value) (v:Value),vs.length=xss.length->vs[k]? =some v->R Q B w0 (pt b (.cells vs)::A v xs::Tw A vs xss k::kl') F):R Q B w0 kl F:=λw s=>by
 obtain⟨S,⟨S1,S2,⟨vs,h1,h2⟩,q2,e⟩,hnd,hall⟩:=(s.fZ hk).own;subst e;have hlt:=(bK.1 hx).1;have hv:vs[k]? =some (vs[k]'(by omega)):=bN (by omega);refine h vs _ h1 hv w ?_;have hg:(tC A vs xss)[k]? =some (A (vs[k]'(by omega)) xs):=Tx A hv hx;obtain⟨T1,T2,u1,u2,e⟩:=h2;obtain⟨T3,⟨T4,T5,u4,u5,e5⟩,u6⟩:=u2.fZ (aA.at hg);subst e5 e;have hperm:((T1++T2)++S2).Perm (T1++(T4++(T5++S2))):=by
  rw[fI];refine List.Perm.append_left T1 ?_;rw[<- fI];exact List.Perm.append_right S2 u6
 exact⟨s.agree,s.le,s.gp,⟨T1++(T4++(T5++S2)),⟨T1,_,u1,⟨T4,_,u4,⟨T5,S2,u5,q2,rfl⟩,rfl⟩,rfl⟩,hperm.nodup hnd,λi hi=>hall i (hperm.mem_iff.2 hi)⟩,s.facts⟩
theorem ac5{vs:List Value}{xss:List β}{k:Nat}{v:Value}{xs:β}:tC A (vs.set k v) (xss.set k xs)=(tC A vs xss).set k (A v xs):=by
 apply kP;intro j;simp only[tC,fw,uj,List.zip,PD];by_cases e:k=j
 ·subst e;by_cases h1:k<vs.length
  ·by_cases h2:k<xss.length
   ·simp[h1,h2];omega
   ·simp[h1,h2];omega
  ·simp[h1];omega
 ·simp[e]
theorem Tz{b:Nat}{xss:List β}{vs:List Value}{k:Nat}{v:Value}{xs:β}(hlen:vs.length=xss.length)(hk:k<xss.length)(h1:aA (pt b (.cells (vs.set k v))) kl k1:=by exact gz)
 (h2:aA (A v xs) k1 k2:=by exact gz) (h3:aA (Tw A vs xss k) k2 bA:=by exact gz) (h:R Q B w0 (og A b (xss.set k xs)::bA) F):R Q B w0 kl F:=
 .perm (λw S hS=>by
  obtain⟨S1,S2,q1,q2,hp⟩:=hS.jH (.cons h1 (.cons h2 (.cons h3 .nil)));obtain⟨T1,U1,u1,⟨T2,U2,u2,⟨T3,U3,u3,u4,e3⟩,e2⟩,e1⟩:=q1;have u4:U3=[]:=u4;subst u4 e3 e2 e1;have hl:((tC A vs xss).set k (A v xs))[k]? =some (A v xs):=by
   rw[uj,if_pos rfl,if_pos (by simp[tC];omega)]
  obtain⟨V,v1,v2⟩:=eU.IU (aA.at hl) (S:=T2++T3) (w:=w) ⟨T2,T3,u2,by rw[ML];exact u3,rfl⟩;refine⟨(T1++V)++S2,⟨T1++V,S2,⟨vs.set k v,by simp[hlen],⟨T1,V,u1,by rw[ac5];exact v1,rfl⟩⟩,q2,rfl⟩,hp.trans ?_⟩;rw[gV];exact List.Perm.append_right S2 (List.Perm.append_left T1 v2)) h
theorem ac6{b m:Nat}{v0:Value}{x0:β}(h0:∀w,(A v0 x0).p w [])(hk:aA (pt b (.cells (List.replicate m v0))) kl kl':=by exact gz)(h:R Q B w0 (og A b (List.replicate m x0)::kl') F):R Q B w0 kl F:=
 .perm (λw S hS=>by
  obtain⟨S',⟨T1,T2,u1,u2,e⟩,hp⟩:=hS.fZ hk;refine⟨S',⟨T1,T2,⟨List.replicate m v0,by simp,⟨T1,[],u1,?_,by simp⟩⟩,u2,e⟩,hp⟩;have:∀m,eU w (tC A (List.replicate m v0) (List.replicate m x0)) []:=by
   intro m;induction m with
   |zero=>rfl
   |succ m ih=>exact⟨[],[],h0 w,ih,rfl⟩
  exact this m) h
theorem ac7{E:Enc β}{b c:Nat}{xss:List β}(fv:Value->E.Y)(hn:E.n=1)(hpat:∀x v,E.pat x (fv v)=[v])(hA:∀v xs,rH (A v xs) (E.fs xs (fv v)))(hc:xss.length<=c:=by first|exact bU _|omega):rH (og A b xss) [ah E (.slice (some ⟨b,0,some 0⟩) xss.length c) xss]:=by
 intro w w' S ⟨vs,hlen,T1,T2,⟨h1,h2⟩,u2,e⟩ hle hh hz f hf;subst e;rw[bM.1 hf];refine .inr ⟨b,0,0,c,vs,⟨rfl,hc,.inl rfl⟩,⟨hz b (by rw[h1];simp),.inl (by rw[hh];exact h2)⟩,λk xs hk=>?_⟩;have hlt:=(bK.1 hk).1;have hv:vs[k]? =some (vs[k]'(by omega)):=bN (by omega);have hg:(tC A vs xss)[k]? =some (A (vs[k]'(by omega)) xs):=Tx A hv hk;obtain⟨T3,⟨T4,T5,u4,u5,e5⟩,u6⟩:=u2.fZ (aA.at hg);subst e5;refine⟨fv (vs[k]'(by omega)),λj u hj=>?_,λg hgm=>?_⟩
 ·rw[hpat]at hj;match j,hj with
  |0,hj=>
   cases hj;show vs[0+k*E.n+0]? =_;rw[hn];simp
 ·exact hA _ _ w w' T4 u4 hle hh (λi hi=>hz i (qp _ (u6.mem_iff.2 (kZ _ hi)))) g hgm
end
def I9{α:Type}(v:Value)(xs:List α):aL:=⟨λ_=>xs=[]->v=.slice none 0 0,λ_ h=>h⟩
def lF{α:Type}(E:Enc α)(v:Value)(xs:List α):OA:=⟨λw S=>(ap E v xs).p w S/\(xs=[]->v=.slice none 0 0),λa h hp=>⟨(ap E v xs).loc a h hp.1,hp.2⟩⟩
def tH{α:Type}(E:Enc α):Enc (List α):=⟨1,Value,λ_ v=>[v],λxs v=>[ah E v xs,I9 v xs],λ_ _=>rfl⟩
theorem ac8{α:Type}{E:Enc α}{v:Value}{xs:List α}:rH (lF E v xs) [ah E v xs,I9 v xs]:=by
 intro w w' S hp hle hh hz f hf;rcases dG.1 hf with rfl|hf
 ·exact fG w w' S hp.1 hle hh hz _ (bM.2 rfl)
 ·rw[bM.1 hf];exact hp.2
theorem TA{α:Type}(E:Enc α)(v:Value)(xs:List α)(h:(xs=[]->v=.slice none 0 0)->R Q B w0 (ap E v xs::kl') F)(hk:aA (lF E v xs) kl kl':=by exact gz):R Q B w0 kl F:=λw s=>by
 obtain⟨S,⟨S1,S2,q1,q2,e⟩,h2,h3⟩:=(s.fZ hk).own;exact h q1.2 w ⟨s.agree,s.le,s.gp,⟨S,⟨S1,S2,q1.1,q2,e⟩,h2,h3⟩,s.facts⟩
theorem TB{α:Type}(E:Enc α)(v:Value)(xs:List α)(hz:xs=[]->v=.slice none 0 0)(h:R Q B w0 (lF E v xs::kl') F)(hk:aA (ap E v xs) kl kl':=by exact gz):R Q B w0 kl F:=λw s=>
 h w ((s.fZ hk).EO (A:=ap E v xs) λw S hp=>⟨hp,hz⟩)
theorem TC{α:Type}{E:Enc α}{v:Value}{xss:List (List α)}{w:Wd}(h:(ah (tH E) v xss).p w):(ah (ax E) v xss).p w:=by
 rcases h with h|⟨i,o,f,c,cells,h1,h2,h3⟩
 ·exact .inl h
 ·refine .inr ⟨i,o,f,c,cells,h1,h2,λk x hk=>?_⟩;obtain⟨y,q1,q2⟩:=h3 k x hk;exact⟨y,q1,λf hf=>q2 f (by rw[bM.1 hf];exact dJ ..)⟩
theorem Ja{A A':OA}(e:A=A')(h:R Q B w0 (A'::kl') F)(hk:aA A kl kl':=by exact gz):R Q B w0 kl F:=by
 subst e;exact λw s=>h w (s.fZ hk)
theorem St.TD{α:Type}{E:Enc α}{v:Value}{aO:List (α×E.Y)}{w:Wd}(h0:0<aO.length)(hall:(xu E aO).p w)(s:St B w0 (ar E v aO::kl') F w):St B w0 (ap E v (aO.map (·.1))::kl') F w:=by
 obtain⟨S,⟨S1,S2,q1,q2,e⟩,h2,h3⟩:=s.own;refine⟨s.agree,s.le,s.gp,⟨S,⟨S1,S2,?_,q2,e⟩,h2,h3⟩,s.facts⟩;rcases q1 with⟨h4,_⟩|⟨b,f,h4,h5,h6,h7⟩
 ·rw[h4]at h0;simp at h0
 ·refine .inr ⟨b,0,f,_,by rw[dV];exact h4,h5,h6,h7,by rw[Fe,dV,fC],λk x hk=>?_⟩;rw[fw]at hk;cases hp:aO[k]? with
  |none=>rw[hp]at hk;cases hk
  |some p=>
   rw[hp]at hk;cases hk;exact⟨p.2,λj u hj=>by rw[fC];exact Aw hp hj,λf hf=>hall p (aP hp) f hf⟩
theorem ac9{α:Type}{E:Enc α}{v:Value}{aO:List (α×E.Y)}(h0:0<aO.length)(h:R Q B w0 (ap E v (aO.map (·.1))::kl') F)(hfs:∀w,(∀f∈F,f.p w)->(xu E aO).p w)(hk:aA (ar E v aO) kl kl':=by exact gz):R Q B w0 kl F:=λw s=>
 h w (St.TD h0 (hfs w s.facts) (s.fZ hk))
end Go.Ideal
namespace Go.Ideal
variable {P:Program}
def Nf{α:Type}(P:Program)(vals:α->List Value)(fe:α->List aL)(fn:Fn)(first cap:List Value)(F:List aL)(X:List α->Prop):Prop:=
 ∀(S:Type) (inv:S->List OA) (ok:List α->S->Prop) (step:S->α->S×Bool) (s0:S) (qF:Fn) (y1 y2:List Value) (F':List aL),ok [] s0->
  (∀vs s x rest,ok vs s->X (vs++x::rest)->(step s x).2=true->ok (vs++[x]) (step s x).1)->
  (∀vs s x rest,ok vs s->X (vs++x::rest)->aV P qF (y1++vals x) y2 (inv s) (fe x++F') (λ_:Unit=>.bool (step s x).2) (λ_=>inv (step s x).1) (λ_=>[]) (λ_=>True))->
  aV P fn (first++[.func qF ⟨y1⟩ ⟨y2⟩]) cap (inv s0) (F++F') (λ_:List α=>.tuple ⟨[]⟩) (λxs=>inv (gq step s0 xs)) (λ_=>[]) X
theorem aV.facts{Y:Type}{fn:Fn}{args cap:List Value}{kl:List OA}{F F2:List aL}{val:Y->Value}{kl':Y->List OA}{fs:Y->List aL}{pr:Y->Prop}(h:aV P fn args cap kl F val kl' fs pr)(hF:∀f∈F,f∈F2):aV P fn args cap kl F2 val kl' fs pr:=
 λB w s=>h B w ⟨s.agree,s.le,s.gp,s.own,λf hf=>s.facts f (hF f hf)⟩
section
variable {B:List Nat} {w0:Wd} {kl kl' bA:List OA} {F:List aL} {K:KO} {n:Nat} {l:List (Nat×Value)} {D:List Deferred} {pm:Option FrameMode} {ro:Option Nat}
theorem ada{S α Z:Type}{f:Operand}{ps:List Tmp}{assign body:dm}{fn:Fn}{first captured:List Value}{vals:α->List Value}{fe:α->List aL}{F1:List aL}{X:List α->Prop}(step:S->α->S×Out)(inv:S->List OA)(ok:List α->S->Prop)(s0:S)(h0:ok [] s0)
 (hok:∀vs s x rest,ok vs s->X (vs++x::rest)->(step s x).2=.normal->ok (vs++[x]) (step s x).1) (hit:Nf P vals fe fn first captured F1 X)
 (hf:ev l f=.func fn ⟨first⟩ ⟨captured⟩) (hps:ps.all (λp=>Nat.blt p n)=true) (hlen:∀x,ps.length=(vals x).length) (hk:aJ (inv s0) kl bA) (hF:Sub F1 F) (iY:∀s x,vN (step s x).2)
 (l3:α->Z->List (Nat×Value)) (k3:α->Z->List OA)
 (ha:∀(s:S) (x:α) (lo:Nat) (o:dH) B w0,R (λh=>EV P assign (act n ((ps.zip (vals x)).reverse++l) [] none (some lo)) h (CG B w0 n (l3 x) lo o (λz=>k3 x z++inv s) (fe x++F))) B w0 (pt lo o::inv s) (fe x++F))
 (hb:∀(vs:List α) (s:S) (x:α) (rest:List α) (z:Z) (lo:Nat) (L:l7) B w0,ok vs s->X (vs++x::rest)->R (λh=>EV P body (act n (l3 x z) [] none (some lo)) h (vO B w0 lo L (λ_:Unit=>(step s x).2) (λ_=>inv (step s x).1) (λ_=>[]) (λ_=>True))) B w0 (pt lo (.loop (pY L))::(k3 x z++inv s)) (fe x++F))
 (next:∀r xs,X xs->R (λh=>K (iO step s0 xs).2 (act n l ({target:=.collected r,args:= #[]}::D) pm none) h) B w0 (inv (iO step s0 xs).1++(pt r (.ic true)::bA)) F):
 R (λh=>EV P (.rangeFunc f ps assign body) (act n l D pm none) h K) B w0 kl F:=by
 refine MH (Y:=List α) (k1:=inv s0) (F1:=F1++F) (EY:=λ_=>.tuple ⟨[]⟩) (out:=λxs=>(iO step s0 xs).2) (k1':=λxs=>inv (iO step s0 xs).1) (fs:=λ_=>[]) (pr:=X) hf ?_ hk (hF.app (Sub.refl' F [])) (λr y hy=>next r y hy);intro lo r;have:=hit (S×Out) (λso=>pt lo (.loop (jU ⟨.ready,none,gP l,n,ps,assign,body,r⟩ so.2))::inv so.1) (λvs so=>so.2=.normal/\ok vs so.1) (λso x=>(step so.1 x,jV (step so.1 x).2)) (s0,.normal) (.yield lo) [] [] F ⟨rfl,h0⟩
  (λvs so x rest ho hx h=>by
    have h:jV (step so.1 x).2=true:=h;have hn:(step so.1 x).2=.normal:=by
     cases e:(step so.1 x).2 with
     |normal=>rfl
     |_=>rw[e]at h;cases h
    exact⟨hn,hok vs so.1 x rest ho.2 hx hn⟩)
  (λvs so x rest ho hx=>by
    obtain⟨s,o⟩:=so;obtain⟨hn,ho⟩:=ho;have hn:o=.normal:=hn;subst hn;exact SY (Y:=Unit) (L:=⟨.ready,none,gP l,n,ps,assign,body,r⟩) (args:=vals x) (k1:=inv s) (out:=λ_=>(step s x).2) (k1':=λ_=>inv (step s x).1) (fs:=λ_=>[]) (pr:=λ_=>True) l (l3 x) (λz=>k3 x z++inv s) rfl rfl hps (hlen x)
     (λB w0=>ha s x lo _ B w0) (λz B w0=>hb vs s x rest z lo _ B w0 ho hx))
 have e:(λxs:List α=>pt lo (.loop (jU ⟨.ready,none,gP l,n,ps,assign,body,r⟩ (gq (λ(so:S×Out) x=>(step so.1 x,jV (step so.1 x).2)) (s0,.normal) xs).2))::inv (gq (λ(so:S×Out) x=>(step so.1 x,jV (step so.1 x).2)) (s0,.normal) xs).1)=λxs=>pt lo (.loop (jU ⟨.ready,none,gP l,n,ps,assign,body,r⟩ (iO step s0 xs).2))::inv (iO step s0 xs).1:=by
  funext xs
  rw[IK]
 have h2:aV P fn (first++[.func (.yield lo) ⟨[]⟩ ⟨[]⟩]) captured (pt lo (.loop ⟨.ready,none,gP l,n,ps,assign,body,r⟩)::inv s0) (F1++F) (λ_:List α=>.tuple ⟨[]⟩) (λxs=>pt lo (.loop (jU ⟨.ready,none,gP l,n,ps,assign,body,r⟩ (gq (λ(so:S×Out) x=>(step so.1 x,jV (step so.1 x).2)) (s0,.normal) xs).2))::inv (gq (λ(so:S×Out) x=>(step so.1 x,jV (step so.1 x).2)) (s0,.normal) xs).1) (λ_=>[]) X:=this;rw[e]at h2;exact h2
theorem adb{S α Z:Type}{f:Operand}{ps:List Tmp}{assign body:dm}{fn:Fn}{first captured:List Value}{vals:α->List Value}{fe:α->List aL}{F1:List aL}{X:List α->Prop}(step:S->α->S×Out)(inv:S->List OA)(ok:List α->S->Prop)(s0:S)(l3:α->Z->List (Nat×Value))(k3:α->Z->List OA)(h0:ok [] s0)
 (hok:∀vs s x rest,ok vs s->X (vs++x::rest)->(step s x).2=.normal->ok (vs++[x]) (step s x).1) (hit:Nf P vals fe fn first captured F1 X)
 (ha:∀(s:S) (x:α) (lo:Nat) (o:dH) B w0,R (λh=>EV P assign (act n ((ps.zip (vals x)).reverse++l) [] none (some lo)) h (CG B w0 n (l3 x) lo o (λz=>k3 x z++inv s) (fe x++F))) B w0 (pt lo o::inv s) (fe x++F))
 (hb:∀(vs:List α) (s:S) (x:α) (rest:List α) (z:Z) (lo:Nat) (L:l7) B w0,ok vs s->X (vs++x::rest)->R (λh=>EV P body (act n (l3 x z) [] none (some lo)) h (vO B w0 lo L (λ_:Unit=>(step s x).2) (λ_=>inv (step s x).1) (λ_=>[]) (λ_=>True))) B w0 (pt lo (.loop (pY L))::(k3 x z++inv s)) (fe x++F))
 (next:∀r xs,X xs->R (λh=>K (iO step s0 xs).2 (act n l ({target:=.collected r,args:= #[]}::D) pm none) h) B w0 (inv (iO step s0 xs).1++(pt r (.ic true)::bA)) F)
 (iY:∀s x,vN (step s x).2)
 (hf:ev l f=.func fn ⟨first⟩ ⟨captured⟩:=by rfl) (hps:ps.all (λp=>Nat.blt p n)=true:=by rfl) (hlen:∀x,ps.length=(vals x).length:=by intro _;rfl)
 (hk:aJ (inv s0) kl bA:=by exact mh) (hF:Sub F1 F:=by exact mg):
 R (λh=>EV P (.rangeFunc f ps assign body) (act n l D pm none) h K) B w0 kl F:=
 ada step inv ok s0 h0 hok hit hf hps hlen hk hF iY l3 k3 ha hb next
end
theorem ade{b o:Nat}{cs:List Value}{w:Wd}(m:Nat)(h:(bZ b o cs).p w):(bZ b (o+m) (cs.drop m)).p w:=by
 obtain⟨cells,h1,h2⟩:=h;exact⟨cells,h1,λj u hu=>by rw[qX]at hu;rw[qm];exact h2 _ u hu⟩
section
variable {B:List Nat} {w0:Wd} {kl:List OA} {F:List aL}
theorem adf{b:Nat}{cs ds:List Value}{Q:IH->Prop}(m:Nat)(hd:cs.drop m=ds)(h:R Q B w0 kl (bZ b m ds::F))(hf:bZ b 0 cs∈F:=by exact vL):R Q B w0 kl F:=
 fD _ (λw hw=>by have:=ade m (hw _ hf);rw[fC,hd]at this;exact this) h
theorem adg{α:Type}(E:Enc α){v:Value}{xs:List α}{k:Nat}{x:α}{Q:IH->Prop}(n:Nat)(hn:E.n=n)(hx:xs[k]? =some x)
 (h:∀b o f c y,v=.slice (some ⟨b,o,some f⟩) xs.length c->R Q B w0 kl (bZ b (o+k*n) (E.pat x y)::(E.fs x y++F))) (hf:ah E v xs∈F:=by exact vL):R Q B w0 kl F:=λw s=>by
 subst hn;rcases s.facts _ hf with⟨h0,_⟩|⟨i,o,f,c,cells,⟨h1,_⟩,h2,h3⟩
 ·rw[h0]at hx;cases hx
 ·obtain⟨y,q1,q2⟩:=h3 k x hx;refine h i o f c y h1 w ⟨s.agree,s.le,s.gp,s.own,λg hg=>?_⟩;rcases dG.1 hg with rfl|hg
  ·exact⟨cells,h2,q1⟩
  ·rcases dB.1 hg with hg|hg
   ·exact q2 g hg
   ·exact s.facts g hg
end
end Go.Ideal
namespace Go.Ideal
variable {P:Program} {B:List Nat} {w0:Wd} {kl kl' bA:List OA} {F:List aL} {K:KO} {ds:List Tmp} {rest:List bT} {n:Nat} {l:List (Nat×Value)} {D:List Deferred} {pm:Option FrameMode} {ro:Option Nat} {d:Nat} {g:Option (Tmp×Bool)}
end Go.Ideal
namespace Go.Ideal
open Go.RowKit Go.WideShapes Go.ChangeShapes
variable {P:Program}
section
variable {H:Type} {enc:TypeId×Value->H} {W:World}
end
end Go.Ideal
namespace Go.Ideal
variable {P:Program}
