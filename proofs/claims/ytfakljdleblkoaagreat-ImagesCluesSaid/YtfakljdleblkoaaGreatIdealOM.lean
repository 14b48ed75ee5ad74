/-
  The ideal machine, 72: conversions between integers, shifts of unsigned ones; arrays of numbers as keys.
-/
import Derived.Test.YtfakljdleblkoaaGreatIdealNM
set_option linter.all false
namespace Go.Ideal
variable {P:Program}
theorem Om{ρ:Operand->Value}{src dst:TypeId}{x:Operand}{kk k:IntKind}{n m:Int}{ds:TypeDesc}(hs:P.underlying src=some ds)(hd:P.underlying dst=some (.int k))(hx:ρ x=.int kk n)(hw:k.wrap n=m):Pu P ρ (.conv src dst x) (.int k m):=λh=>by
 have h1:eB P (convert src dst (.int kk n))=some (.int k m):=by
  unfold convert;rw[ig,rX hs];simp only[iU];rw[ig,rX hd];simp only[iU];rw[<- hw];rfl
 simp only[aF.run,hx,kP,h1];rfl
theorem ae9{a:Nat}(h:a<18446744073709551616):IntKind.u64.wrap (a:Int)=a:=by
 show(let m:=(a:Int)%(2^64:Int);if false&&m>=(2^63:Int)then m - (2^64:Int)else m)=_;simp only[Bool.false_and,uE,if_false];rw[Int.emod_eq_of_lt (by omega) (by simpa using(by omega:(a:Int)<18446744073709551616))]
theorem afa{ρ:Operand->Value}{x y:Operand}{t:TypeId}{a b:Nat}(hx:ρ x=.int .u64 (a:Int))(hy:ρ y=.int .u64 (b:Int))(hb:b<64):Pu P ρ (.bin .shr t x y) (.int .u64 ((a>>>b:Nat):Int)):=λh=>by
 have hv:eB P (binOp .shr t (.int .u64 (a:Int)) (.int .u64 (b:Int)))=some (.int .u64 ((a>>>b:Nat):Int)):=by
  show eB P (Op.shift .shr .u64 a .u64 b)=_;unfold Op.shift;rw[if_neg (by omega)];show some (Value.int .u64 ((a:Int).fdiv (2^(min (b:Int).toNat 64))))=_;rw[show min (b:Int).toNat 64=b by simp;omega,Rt];congr 2;rw[show((2:Int)^b)=((2^b:Nat):Int)by simp,Int.fdiv_eq_ediv_of_nonneg _ (Int.natCast_nonneg _)];simp
 have h1:kP P (do eqGuard .shr t x y (.int .u64 (a:Int)) (.int .u64 (b:Int));binOp .shr t (.int .u64 (a:Int)) (.int .u64 (b:Int)))=some (.int .u64 ((a>>>b:Nat):Int)):=by
  unfold kP;rw[ig,CY (by intro c e;cases e) (by intro e;cases e)];simp only[iU,hv];rfl
 have h2:kD P .shr t x y (.int .u64 (a:Int)) (.int .u64 (b:Int))=some (.int .u64 ((a>>>b:Nat):Int)):=by
  unfold kD;have:(match uJ .u64 .u64 with|true=>pX .shr .u64 (a:Int) (b:Int)|false=>none)=none:=rfl;simp only[uJ,dF,LQ,cond];exact h1
 simp only[aF.run,hx,hy,h2]
theorem afb{α:Type}[DecidableEq α]{aY:α->Value}{kt:TypeId}{d:TypeDesc}(hu:P.underlying kt=some d)(hn:∀a b,Instr.sameNow d (aY a) (aY b)=none)(he:∀a b,eB P (Op.equal kt (aY a) (aY b))=some (decide (a=b)))(a:α)(ax:List (α×Value))(es:List MapEntry)(h:pI aY ax es):sV P kt (aY a) es=some (pG a ax 0):=by
 have Oo:∀(ax:List (α×Value)) (es:List MapEntry) (i:Nat),pI aY ax es->eB P (Instr.findAsking kt (aY a) es i)=some (pG a ax i):=by
  intro ax;induction ax with
  |nil=>
   intro es i h;cases es with
   |nil=>rfl
   |cons e es=>cases h
  |cons p ax ih=>
   intro es i h;obtain⟨e,es',rfl,h1,h2,h3⟩:=Ob h;unfold Instr.findAsking;rw[ig,h1,he];simp only[iU];unfold pG;by_cases hab:a=p.1
   ·rw[fQ hab,if_pos hab,h2];rfl
   ·rw[dM hab,if_neg hab];exact ih es' (i+1) h3
 unfold sV Instr.findKey;rw[ig,rX hu];simp only[iU];cases ax with
 |nil=>
  cases es with
  |nil=>rfl
  |cons e es=>cases h
 |cons p ax=>
  have h':=h;obtain⟨e,es',rfl,h1,h2,h3⟩:=Ob h;have:Instr.findNow d (aY a) (e::es') 0=none:=by
   show(match Instr.sameNow d (aY a) e.key with
   |some true=>some (some (0,e.val))
   |some false=>Instr.findNow d (aY a) es' 1
   |none=>none)=_
   rw[h1,hn]
  rw[this];exact Oo _ _ _ h'
abbrev Bl:Int×Int->Value:=λp=>.agg ⟨[.int .i64 p.1,.int .i64 p.2]⟩
theorem afc{kt e:TypeId}(hu:P.underlying kt=some (.array 2 e))(he:P.underlying e=some (.int .i64))(hs:P.info? e|>.map (·.size)|>(·=some 1))(hc:∀a b:Int,rF P kt (.agg ⟨[.int .i64 a,.int .i64 b]⟩)=true):rY P kt Bl where
 FN a:=hc a.1 a.2
 find a ax es h:=afb hu (λa b=>rfl) (λa b=>by
  have:=Vh (d:=9998) (xs:=[a.1,a.2]) (ys:=[b.1,b.2]) hu he hs rfl rfl;rw[show decide (a=b)=decide ([a.1,a.2]=[b.1,b.2])from nK.2 ⟨λh=>by rw[h],λh=>by
   injection h with h1 h2;injection h2 with h2;exact Prod.ext h1 h2⟩]
  exact this) a ax es h
 same a:=by
  show((⟨[Value.int .i64 a.1,.int .i64 a.2]⟩:Array Value).size==(⟨[Value.int .i64 a.1,.int .i64 a.2]⟩:Array Value).size&&(List.zip [Value.int .i64 a.1,.int .i64 a.2] [Value.int .i64 a.1,.int .i64 a.2]).all λ(x,y)=>Instr.sameBits 9999 x y)=true;simp[Instr.sameBits]
end Go.Ideal
namespace Go.Ideal
section
variable {P:Program}
variable {ds:List Tmp} {rest:List bP} {n:Nat} {l:List (Nat×Value)} {D:List Deferred} {pm:Option FrameMode} {ro:Option Nat} {h:IH} {K:KO} {d:Nat} {g:Option (Tmp×Bool)}
theorem Vm{op:aF}{v:Value}{h':IH}{re:List iw}(hn:Nat.blt d n=true)(hg:bM l g=true)(hr:op.run P (ev l) h=some (v,h'))
 (hsm:∀q∈re,∃u h2,q.op.run P (ev ((d,v)::l)) h'=some (u,h2)/\∀d',q.dst=some d'->lk ((d,v)::l) d'=u)
 (next:aI P ds rest (act n ((d,v)::l) D pm ro) h' K):aI P ds (⟨⟨some d,g,op⟩,re⟩::rest) (act n l D pm ro) h K:=
 .lu (wu hg) v h' (by rw[nu];exact hr) (λq hq _=>by
  obtain⟨u,h2,e1,e2⟩:=hsm q hq;rw[qh hn];exact⟨u,h2,by rw[nu];exact e1,λd' hd=>by rw[<- e2 d' hd];exact uU _ _⟩) (by rw[qh hn];exact next)
theorem afd{re:List iw}{e:TypeId}{size bytes b o m k:Nat}{f:Option Nat}{s x:Operand}{old xs:List Value}(hn:Nat.blt d n=true)(hg:bM l g=true)
 (hs:ev l s=.slice (some ⟨b,o,f⟩) m m) (hx:pq (ev l x)=some (k+1)) (hxs:mY size (k+1) (ev l x) h=some xs) (hold:h.iW b o (m*size)=some old)
 (hf:f=some 0\/f=some size) (hm:(m+(k+1))*bytes<=1073741824/\(m+(k+1))*size<=1073741824/\m+(k+1)<=1073741824)
 (hsm:∀h',A9 h h' b (.cells (old++xs))->∀q∈re,∃u h2,q.op.run P (ev ((d,.slice (some ⟨h.next,0,some size⟩) (m+(k+1)) (m+(k+1)))::l)) h'=some (u,h2)/\∀d',q.dst=some d'->lk ((d,.slice (some ⟨h.next,0,some size⟩) (m+(k+1)) (m+(k+1)))::l) d'=u)
 (next:∀h',A9 h h' b (.cells (old++xs))->aI P ds rest (act n ((d,.slice (some ⟨h.next,0,some size⟩) (m+(k+1)) (m+(k+1)))::l) D pm ro) h' K):
 aI P ds (⟨⟨some d,g,.append e size bytes s x⟩,re⟩::rest) (act n l D pm ro) h K:=by
 have hle:∀{a b:Nat},a<=b->Nat.ble a b=true:=λh=>by rw[sP];exact h
 have hlt:Nat.ble (m+(k+1)) m=false:=by
  cases hb:Nat.ble (m+(k+1)) m with
  |false=>rfl
  |true=>have:=mJ hb;omega
 have hc:(Nat.ble (Nat.mul (m+(k+1)) bytes) small&&Nat.ble (Nat.mul (m+(k+1)) size) small&&Nat.ble (m+(k+1)) small)=true:=by
  rw[hle (show Nat.mul (m+(k+1)) bytes<=small from hm.1),hle (show Nat.mul (m+(k+1)) size<=small from hm.2.1),hle (show m+(k+1)<=small from hm.2.2)];rfl
 have hrun:∃h',(aF.append e size bytes s x).run P (ev l) h=some (.slice (some ⟨h.next,0,some size⟩) (m+(k+1)) (m+(k+1)),h')/\A9 h h' b (.cells (old++xs)):=by
  have Ba:yZ size (k+1) (ev l x) h=some xs:=hxs;simp only[aF.run,hx,Ba,hs,xm];have e1:mY size m (.slice (some ⟨b,o,f⟩) m m) h=some old:=hold;show∃h',(cond (Nat.ble (Nat.mul (m+(k+1)) bytes) small&&Nat.ble (Nat.mul (m+(k+1)) size) small&&Nat.ble (m+(k+1)) small) _ _)=_/\_;rw[hc];show∃h',(cond (Nat.ble (m+(k+1)) m) _ _)=_/\_;rw[hlt];simp only[cond,e1];rcases hf with rfl|rfl
  ·refine⟨_,rfl,?_⟩;exact⟨rfl,λi hi _=>by rw[IH.jc,if_neg (by omega)],⟨vT _,by rw[IH.jc,if_pos rfl,jE]⟩,λ_=>rfl⟩
  ·cases size with
   |zero=>
    refine⟨_,rfl,?_⟩;exact⟨rfl,λi hi _=>by rw[IH.jc,if_neg (by omega)],⟨vT _,by rw[IH.jc,if_pos rfl,jE]⟩,λ_=>rfl⟩
   |succ j=>
    have hj:Nat.beq (Nat.succ j) (j+1)=true:=Cc _;refine⟨(h.kill b).new (.cells (old++xs)),?_,?_⟩
    ·show cond (Nat.beq (Nat.succ j) (j+1)) _ _=_;rw[hj,jE];rfl
    ·exact⟨rfl,λi hi hb=>by rw[IH.jc,if_neg (by show i≠h.next;omega),IH.tC,if_neg hb],⟨vT _,by rw[IH.jc];exact if_pos rfl⟩,λhl=>by rw[IH.Mj,IH.AL];omega⟩
 obtain⟨h',hr,hM⟩:=hrun;exact Vm hn hg hr (hsm h' hM) (next h' hM)
theorem afe{re:List iw}{e:TypeId}{size bytes k c:Nat}{s x:Operand}{xs:List Value}(hn:Nat.blt d n=true)(hg:bM l g=true)
 (hs:ev l s=.slice none 0 0) (hx:pq (ev l x)=some (k+1)) (hxs:mY size (k+1) (ev l x) h=some xs)
 (hm:(k+1)*bytes<=1073741824/\(k+1)*size<=1073741824/\(k+1)<=1073741824)
 (hsm:∀h',Agree h h'->At h' h.next (.cells xs)->h'.next=h.next+1->∀q∈re,∃u h2,q.op.run P (ev ((d,.slice (some ⟨h.next,0,some size⟩) (k+1) (k+1))::l)) h'=some (u,h2)/\∀d',q.dst=some d'->lk ((d,.slice (some ⟨h.next,0,some size⟩) (k+1) (k+1))::l) d'=u)
 (next:∀h',Agree h h'->At h' h.next (.cells xs)->h'.next=h.next+1->aI P ds rest (act n ((d,.slice (some ⟨h.next,0,some size⟩) (k+1) (k+1))::l) D pm ro) h' K):
 aI P ds (⟨⟨some d,g,.append e size bytes s x⟩,re⟩::rest) (act n l D pm ro) h K:=by
 have hle:∀{a b:Nat},a<=b->Nat.ble a b=true:=λh=>by rw[sP];exact h
 have e0:Nat.add 0 (k+1)=k+1:=fw _;refine Vm hn hg (h':=h.new (.cells xs)) ?_ (hsm _ (NB _ _) (NC _ _) rfl) (next _ (NB _ _) (NC _ _) rfl);have Ba:yZ size (k+1) (ev l x) h=some xs:=hxs;simp only[aF.run,hx,Ba,hs,xm,e0];rw[hle (show Nat.mul (k+1) bytes<=small from hm.1),hle (show Nat.mul (k+1) size<=small from hm.2.1),hle (show k+1<=small from hm.2.2)];have e1:mY size 0 (.slice none 0 0) h=some []:=by
  show(match (0:Nat)with|0=>some ([]:List Value)|_=>none)=_;rfl
 have e2:Nat.ble (k+1) 0=false:=rfl;simp only[LQ,cond_true,e2,cond_false,e1,jE,bH]
end
section
variable {P:Program}
variable {ρ:Operand->Value}
variable {B:List Nat} {w0:Wd} {kl kl':List OA} {F:List aD} {a:aV} {K:KO}
variable {y:dm} {i j m0:Nat} {I:Nat->aV->IH->Prop} {ch:List PanicEntry}
variable {B:List Nat} {w0:Wd} {kl kl':List OA} {F:List aD} {K:KO} {ds:List Tmp} {rest:List bP} {n:Nat} {l:List (Nat×Value)} {D:List Deferred} {pm:Option FrameMode} {ro:Option Nat} {d:Nat} {g:Option (Tmp×Bool)}
theorem aff{re:List iw}{α:Type}{E:Enc α}{e:TypeId}{size bytes b':Nat}{s x:Operand}{v:Value}{xs:List α}{a:α}{y:E.Y}{cs:List Value}{k1 k2:List OA}(hn:Nat.blt d n=true)(hg:bM l g=true)
 (hs:ev l s=v) (hx:ev l x=.slice (some ⟨b',0,some 0⟩) 1 1) (hk:az (ap E v xs) kl k1) (hc:az (pt b' (.cells cs)) k1 k2) (hp:cs=E.pat a y) (hF:Sub (E.fs a y) F) (hz:E.n=size)
 (hm:(xs.length+1)*bytes<=1073741824/\(xs.length+1)*size<=1073741824/\xs.length+1<=1073741824)
 (hsm:∀ad,Same P re (ev ((d,.slice ad (xs.length+1) (xs.length+1))::l)) ((d,.slice ad (xs.length+1) (xs.length+1))::l) B w0 (ap E (.slice ad (xs.length+1) (xs.length+1)) (xs++[a])::k2) F)
 (r:∀ad,R (λh=>aI P ds rest (act n ((d,.slice ad (xs.length+1) (xs.length+1))::l) D pm ro) h K) B w0 (ap E (.slice ad (xs.length+1) (xs.length+1)) (xs++[a])::k2) F):
 R (λh=>aI P ds (⟨⟨some d,g,.append e size bytes s x⟩,re⟩::rest) (act n l D pm ro) h K) B w0 kl F:=by
 intro w st;subst hp hz;have hlen:=E.len a y;have st2:St B w0 (ap E v xs::pt b' (.cells (E.pat a y))::k2) F w:=st.jy (.cons hk (.cons hc .nil));have hat:At w.h b' (.cells (E.pat a y)):=st2.at_ (.there .here);have rW:St B w0 (ap E v xs::k2) F w:=(st2.fA (.there .here)).tail;have hfs:∀f∈E.fs a y,f.p w:=λf hf=>st.facts f (hF.mem f hf);have hread:w.h.iW b' 0 (1*E.n)=some (E.pat a y):=by
  rw[hat.c.iW,qL,rO,wY,Er,if_pos (by omega),<- hlen,eH]
 have hx1:pq (ev l x)=some (0+1):=by rw[hx];rfl
 have hx2:mY E.n (0+1) (ev l x) w.h=some (E.pat a y):=by rw[hx];exact hread
 -- what lies there afterwards
 have put:∀(w':Wd) (c:Nat) (f:Nat) (cells:List Value),cells.length=xs.length*E.n->(∀(k:Nat) z,xs[k]? =some z->∃y,(∀(j:Nat) u,(E.pat z y)[j]? =some u->cells[k*E.n+j]? =some u)/\∀f∈E.fs z y,f.p w')->(∀f∈E.fs a y,f.p w')->
  (f=0\/f=E.n)->∀S,(pt c (.cells (cells++E.pat a y))).p w' S->(ap E (.slice (some ⟨c,0,some f⟩) (xs.length+1) (xs.length+1)) (xs++[a])).p w' S:=by
  intro w' c f cells h1 h2 h3 h4 S hp;refine .inr ⟨c,0,f,_,by rw[gP];rfl,h4,hp.1,hp.2,by rw[gP,gP,h1,hlen,yT,o8,wY,fw],λk z hk=>?_⟩;by_cases hlt:k<xs.length
  ·rw[ol hlt]at hk;obtain⟨y',q1,q2⟩:=h2 k z hk;refine⟨y',λj u hj=>?_,q2⟩;rw[fw];have:=q1 j u hj;rw[ol (aW.1 this).1];exact this
  ·rw[mU (by omega)]at hk;have hk0:k=xs.length:=by
    have:=(aW.1 hk).1;simp at this;omega
   subst hk0;simp at hk;subst hk;refine⟨y,λj u hj=>?_,h3⟩;rw[fw,mU (by omega),h1,ZA];exact hj
 obtain⟨S,⟨S1,S2,q,q2,e1⟩,hnd,hown⟩:=rW.own;rcases q with⟨rfl,rfl,rfl⟩|⟨b,o,f,cells,rfl,hf,rfl,hb,hcl,hel⟩
 ·have key:∀h',Agree w.h h'->At h' w.h.next (.cells (E.pat a y))->h'.next=w.h.next+1->∃w':Wd,w'.h=h'/\St B w0 (ap E (.slice (some ⟨w.h.next,0,some E.n⟩) (([]:List α).length+1) (([]:List α).length+1)) ([]++[a])::k2) F w':=λh' ag uY hnx=>by
   obtain⟨w',rfl,lZ⟩:=rW.tail.fresh ag uY hnx;refine⟨w',rfl,?_⟩;have hle:∀f∈E.fs a y,f.p w':=λf hf=>lZ.facts f (hF.mem f hf);exact lZ.zz λS hp=>put w' _ E.n [] (by simp) (λk z hk=>by cases hk) hle (.inr rfl) S hp
  refine afe (c:=0) hn hg hs hx1 hx2 (by simpa using hm) (λh' ag uY hnx=>?_) λh' ag uY hnx=>?_
  ·obtain⟨w',rfl,lZ⟩:=key h' ag uY hnx;exact hsm _ w' lZ
  ·obtain⟨w',rfl,lZ⟩:=key h' ag uY hnx;exact r _ w' lZ
 ·have FB:St B w0 (pt b (.cells cells)::k2) F w:=⟨rW.agree,rW.le,rW.fE,⟨S,⟨_,S2,⟨rfl,hb⟩,q2,e1⟩,hnd,hown⟩,rW.facts⟩
  have NR:At w.h b (.cells cells):=FB.at_ .here;have key:∀h',A9 w.h h' b (.cells (cells.drop o++E.pat a y))->∃w':Wd,w'.h=h'/\St B w0 (ap E (.slice (some ⟨w.h.next,0,some E.n⟩) (xs.length+1) (xs.length+1)) (xs++[a])::k2) F w':=λh' mv=>by
   obtain⟨w',rfl,lZ,Ja⟩:=FB.move mv;refine⟨w',rfl,lZ.zz λS hp=>?_⟩;have hle:∀f∈E.fs a y,f.p w':=λf hf=>lZ.facts f (hF.mem f hf);refine put w' _ E.n (cells.drop o) (by rw[uG];omega) (λk z hk=>?_) hle (.inr rfl) S hp;obtain⟨y',u1,u2⟩:=hel k z hk;exact⟨y',λj u hj=>by rw[oh,<- pU];exact u1 j u hj,λf hf=>f.mono Ja (u2 f hf)⟩
  refine afd (old:=cells.drop o) (xs:=E.pat a y) hn hg hs hx1 hx2 ?_ (hf.elim (λe=>.inl (by rw[e])) λe=>.inr (by rw[e])) hm (λh' mv=>?_) λh' mv=>?_
  ·have hdl:(cells.drop o).length=xs.length*E.n:=by rw[uG];omega
   rw[NR.c.iW,qL,rO,if_pos (by omega),<- hdl,eH]
  ·obtain⟨w',rfl,lZ⟩:=key h' mv;exact hsm _ w' lZ
  ·obtain⟨w',rfl,lZ⟩:=key h' mv;exact r _ w' lZ
end
section
variable {P:Program} {B:List Nat} {w0:Wd} {kl kl' aT:List OA} {F:List aD} {K:KO} {n:Nat} {l:List (Nat×Value)} {D:List Deferred} {pm:Option FrameMode} {ro:Option Nat}
theorem Vn{re:List iw}{α:Type}(E:Enc α){ds:List Tmp}{rest:List bP}{d:Nat}{g:Option (Tmp×Bool)}{e:TypeId}{size bytes b':Nat}{s x:Operand}{v:Value}{xs:List α}(a:α)(y:E.Y){cs:List Value}{k1 k2:List OA}
 (hm:(xs.length+1)*bytes<=1073741824/\(xs.length+1)*size<=1073741824/\xs.length+1<=1073741824)
 (next:∀ad,R (λh=>aI P ds rest (act n ((d,.slice ad (xs.length+1) (xs.length+1))::l) D pm ro) h K) B w0 (ap E (.slice ad (xs.length+1) (xs.length+1)) (xs++[a])::k2) F)
 (hn:Nat.blt d n=true:=by rfl) (hg:bM l g=true:=by rfl)
 (hs:ev l s=v:=by conv=>lhs;whnf) (hx:ev l x=.slice (some ⟨b',0,some 0⟩) 1 1:=by rfl) (hk:az (ap E v xs) kl k1:=by exact fB) (hc:az (pt b' (.cells cs)) k1 k2:=by exact fB) (hp:cs=E.pat a y:=by rfl) (hF:Sub (E.fs a y) F:=by exact l5) (hz:E.n=size:=by rfl)
 (hsm:∀ad,Same P re (ev ((d,.slice ad (xs.length+1) (xs.length+1))::l)) ((d,.slice ad (xs.length+1) (xs.length+1))::l) B w0 (ap E (.slice ad (xs.length+1) (xs.length+1)) (xs++[a])::k2) F:=by intro _;repeat (first|exact CZ|refine C8 rfl (by repeat (first|with_reducible exact az.here|with_reducible apply az.there|with_reducible apply az.app)) (by first|exact rfl|(conv=>lhs;whnf)) rfl ?_|refine FC rfl (by(repeat (first|with_reducible exact bR .. |with_reducible apply bU));first|done|fail) (by first|exact rfl|(conv=>lhs;whnf)) rfl ?_|refine FD rfl (by(repeat (first|with_reducible exact bR .. |with_reducible apply bU));first|done|fail) (by first|exact rfl|(conv=>lhs;whnf)) rfl ?_|refine FE rfl (by repeat (first|with_reducible exact az.here|with_reducible apply az.there|with_reducible apply az.app)) (by first|exact rfl|(conv=>lhs;whnf)) rfl ?_|refine FH rfl (by(repeat (first|with_reducible exact bR .. |with_reducible apply bU));first|done|fail) (by first|exact rfl|(conv=>lhs;whnf)) rfl ?_|refine FI rfl (by(repeat (first|with_reducible exact bR .. |with_reducible apply bU));first|done|fail) (by first|exact rfl|(conv=>lhs;whnf)) rfl ?_|refine UB (by first|((with_reducible apply Iz);(focus ((conv=>lhs;whnf);(first|done|fail))))|((with_reducible apply IA);(focus ((conv=>lhs;whnf);(first|done|fail))))|((with_reducible apply IG);(focus exact rfl))|((with_reducible apply IJ);(focus exact rfl);(focus exact rfl))|((with_reducible apply IK);(focus exact rfl);(focus exact rfl))|((with_reducible apply IL);(focus exact rfl);(focus exact rfl))|((with_reducible apply IM);(focus exact rfl);(focus exact rfl))|((with_reducible apply IP);(focus exact rfl);(focus exact rfl))|((with_reducible apply IQ);(focus exact rfl);(focus exact rfl))|((with_reducible apply IE);(focus exact rfl))|((with_reducible apply IB);(focus exact rfl);(focus ((conv=>lhs;whnf);(first|done|fail))))|((with_reducible apply IC);(focus exact rfl);(focus ((conv=>lhs;whnf);(first|done|fail))))|((with_reducible apply IU);(focus exact rfl);(focus ((conv=>lhs;whnf);(first|done|fail))))|((with_reducible apply IV);(focus exact rfl))|((with_reducible apply IW);(focus exact rfl);(focus ((conv=>lhs;whnf);(first|done|fail))))|((with_reducible apply IX);(focus exact rfl);(focus ((conv=>lhs;whnf);(first|done|fail))))|((with_reducible apply IY);(focus ((conv=>lhs;whnf);(first|done|fail))))|((with_reducible apply IZ);(focus exact rfl))|((with_reducible apply I1);(focus exact rfl))|((with_reducible apply I4);(focus exact rfl))|with_reducible exact II|((with_reducible apply I5);(focus exact rfl);(focus exact rfl);(focus exact rfl))|((with_reducible apply Jg);(focus exact rfl);(focus exact rfl);(focus ((omega);(first|done|fail))))|((with_reducible apply Fy);(focus exact rfl);(focus exact rfl);(focus ((omega);(first|done|fail)));(focus ((omega);(first|done|fail))))|((with_reducible apply I6);(focus exact rfl);(focus exact rfl);(focus ((omega);(first|done|fail)));(focus ((omega);(first|done|fail))))|((with_reducible apply CW);(focus exact rfl);(focus exact rfl);(focus ((omega);(first|done|fail)));(focus ((omega);(first|done|fail))))|((with_reducible apply IR);(focus exact rfl);(focus exact rfl);(focus ((omega);(first|done|fail)));(focus ((omega);(first|done|fail))))|((with_reducible apply Jb);(focus exact rfl);(focus exact rfl);(focus ((first|assumption|kernel_rfl);(first|done|fail))))|((with_reducible apply Jc);(focus exact rfl);(focus exact rfl);(focus ((first|assumption|kernel_rfl);(first|done|fail))))|((with_reducible apply Jd);(focus exact rfl);(focus exact rfl))|((with_reducible apply Je);(focus exact rfl);(focus exact rfl))|((with_reducible apply Jf);(focus exact rfl);(focus exact rfl);(focus ((omega);(first|done|fail)));(focus ((omega);(first|done|fail))))) rfl ?_)):
 R (λh=>aI P ds (⟨⟨some d,g,.append e size bytes s x⟩,re⟩::rest) (act n l D pm ro) h K) B w0 kl F:=
 aff hn hg hs hx hk hc hp hF hz hm hsm next
end
end Go.Ideal
namespace Go.Ideal
variable {P:Program}
section
variable {α κ:Type} [DecidableEq κ] {aY:κ->Value} {E:Enc α}
def nR(E:Enc α):List (κ×Value)->List (κ×List α)->List OA
 |p::ax,q::m=>ap E p.2 q.2::nR E ax m
 |_,_=>[]
def uh(E:Enc α)(n:κ):List (κ×Value)->List (κ×List α)->List OA
 |p::ax,q::m=>if n=p.1 then nR E ax m else ap E p.2 q.2::uh E n ax m
 |_,_=>[]
def FW(aY:κ->Value)(E:Enc α)(b:Nat)(m:List (κ×List α)):OA:=
 ⟨λw S=>∃ax:List (κ×Value),ax.map (·.1)=m.map (·.1)/\eP w (gL aY b ax::nR E ax m) S,λa h ⟨ax,h1,h2⟩=>⟨ax,h1,eP.loc a h h2⟩⟩
def Vo(E:Enc α)(n:κ)(ax:List (κ×Value))(m:List (κ×List α)):OA:=⟨λw S=>eP w (uh E n ax m) S,λa h hp=>eP.loc a h hp⟩
def Vp(E:Enc α)(ax:List (κ×Value))(m:List (κ×List α)):OA:=⟨λw S=>eP w (nR E ax m) S,λa h hp=>eP.loc a h hp⟩
def Vq(E:Enc α)(ax:List (κ×Value))(m:List (κ×List α)):aD:=
 ⟨λw=>∀n v xs,dU n ax=some v->dU n m=some xs->(ah E v xs).p w,λa h n v xs h1 h2=>(ah E v xs).mono a (h n v xs h1 h2)⟩
theorem Oq{β γ:Type}{n:κ}:∀{ax:List (κ×β)} {m:List (κ×γ)},ax.map (·.1)=m.map (·.1)->(dU n ax=none↔dU n m=none)
 |[],[],_=>⟨λ_=>rfl,λ_=>rfl⟩
 |(a,u)::ax,(b,x)::m,h=>by
  rw[fI,fI]at h;injection h with h1 h2;have h1:a=b:=h1;subst h1;unfold dU;by_cases e:n=a
  ·rw[if_pos e,if_pos e];exact⟨λh=>(nomatch h),λh=>(nomatch h)⟩
  ·rw[if_neg e,if_neg e];exact Oq h2
 |[],_::_,h=>by cases h
 |_::_,[],h=>by cases h
theorem Vr{n:κ}:∀{ax:List (κ×Value)} {m:List (κ×List α)},dU n ax=none->uh E n ax m=nR E ax m
 |[],_,_=>by unfold uh nR;rfl
 |_::_,[],_=>by unfold uh nR;rfl
 |(a,u)::ax,(b,x)::m,h=>by
  unfold dU at h;by_cases e:n=a
  ·rw[if_pos e]at h;cases h
  ·rw[if_neg e]at h;unfold uh nR;rw[if_neg e,Vr h]
theorem Ot{n:κ}{v:Value}{xs:List α}:∀{ax:List (κ×Value)} {m:List (κ×List α)},ax.map (·.1)=m.map (·.1)->dU n ax=some v->dU n m=some xs->az (ap E v xs) (nR E ax m) (uh E n ax m)
 |[],_,_,h,_=>by cases h
 |_::_,[],h,_,_=>by cases h
 |(a,u)::ax,(b,x)::m,h,h1,h2=>by
  rw[fI,fI]at h;injection h with e1 e2;have e1:a=b:=e1;subst e1;unfold dU at h1 h2;unfold nR uh;by_cases e:n=a
  ·rw[if_pos e]at h1 h2⊢;cases h1;cases h2;exact .here
  ·rw[if_neg e]at h1 h2⊢;exact .there (Ot e2 h1 h2)
theorem Vs{n:κ}{v:Value}{xs:List α}:∀{ax:List (κ×Value)} {m:List (κ×List α)},ax.map (·.1)=m.map (·.1)->az (ap E v xs) (nR E (upd n v ax) (upd n xs m)) (uh E n ax m)
 |[],[],_=>by unfold upd uh nR nR;exact .here
 |[],_::_,h=>by cases h
 |_::_,[],h=>by cases h
 |(a,u)::ax,(b,x)::m,h=>by
  rw[fI,fI]at h;injection h with e1 e2;have e1:a=b:=e1;subst e1;unfold upd uh;by_cases e:n=a
  ·rw[if_pos e,if_pos e,if_pos e];rw[show nR E ((n,v)::ax) ((n,xs)::m)=ap E v xs::nR E ax m from rfl];exact .here
  ·rw[if_neg e,if_neg e,if_neg e];rw[show nR E ((a,u)::upd n v ax) ((a,x)::upd n xs m)=ap E u x::nR E (upd n v ax) (upd n xs m)from rfl];exact .there (Vs e2)
theorem FX{β γ:Type}{n:κ}{v:β}{x:γ}:∀{ax:List (κ×β)} {m:List (κ×γ)},ax.map (·.1)=m.map (·.1)->(upd n v ax).map (·.1)=(upd n x m).map (·.1)
 |[],[],_=>rfl
 |[],_::_,h=>by cases h
 |_::_,[],h=>by cases h
 |(a,u)::ax,(b,y)::m,h=>by
  rw[fI,fI]at h;injection h with e1 e2;have e1:a=b:=e1;subst e1;unfold upd;by_cases e:n=a
  ·rw[if_pos e,if_pos e,fI,fI,e2]
  ·rw[if_neg e,if_neg e,fI,fI,FX e2]
variable {B:List Nat} {w0:Wd} {kl kl' aT k1 k2:List OA} {F:List aD} {Q:IH->Prop} {b:Nat} {m:List (κ×List α)}
theorem afg(E:Enc α)(h:R Q B w0 (FW aY E b ([]:List (κ×List α))::kl') F)(hk:az (gL aY b []) kl kl':=by exact fB):R Q B w0 kl F:=
 .perm (λw S hS=>by
  obtain⟨S',⟨T1,T2,u1,u2,e⟩,hp⟩:=hS.fA hk;exact⟨S',⟨T1,T2,⟨[],rfl,T1,[],u1,rfl,by simp⟩,u2,e⟩,hp⟩) h
theorem afh(n:κ)(hk:az (FW aY E b m) kl kl':=by exact fB)
 (h:∀(ax:List (κ×Value)) (v:Value),ax.map (·.1)=m.map (·.1)->kU false (.slice none 0 0) n ax=v->R Q B w0 (gL aY b ax::ap E v ((dU n m).getD [])::Vo E n ax m::kl') F):R Q B w0 kl F:=λw s=>by
 obtain⟨S,⟨S1,S2,⟨ax,hkeys,T1,T2,u1,u2,e1⟩,q2,e⟩,hnd,hall⟩:=(s.fA hk).own;have key:∃T',eP w (ap E (kU false (.slice none 0 0) n ax) ((dU n m).getD [])::uh E n ax m) T'/\T2.Perm T':=by
  cases hl:dU n ax with
  |none=>
   have hm:=(Oq (n:=n) hkeys).1 hl;have e1:kU false (.slice none 0 0) n ax=.slice none 0 0:=by unfold kU;rw[hl];rfl
   rw[e1,hm,Vr hl];exact⟨T2,⟨[],T2,.inl ⟨rfl,rfl,rfl⟩,u2,rfl⟩,.refl _⟩
  |some v=>
   cases hm:dU n m with
   |none=>rw[(Oq (n:=n) hkeys).2 hm]at hl;cases hl
   |some xs=>
    have e1:kU false (.slice none 0 0) n ax=v:=by unfold kU;rw[hl];rfl
    rw[e1];exact u2.fA (Ot hkeys hl hm)
 obtain⟨T',⟨T3,T4,u3,u4,e3⟩,hp⟩:=key;subst e e1 e3;have hperm:((T1++T2)++S2).Perm (T1++(T3++(T4++S2))):=by
  rw[ed];refine List.Perm.append_left T1 ?_;rw[<- ed];exact List.Perm.append_right S2 hp
 exact h ax _ hkeys rfl w ⟨s.agree,s.le,s.fE,⟨_,⟨T1,_,u1,⟨T3,_,u3,⟨T4,S2,u4,q2,rfl⟩,rfl⟩,rfl⟩,hperm.nodup hnd,λi hi=>hall i (hperm.mem_iff.2 hi)⟩,s.facts⟩
theorem afi(n:κ){ax:List (κ×Value)}{v:Value}{xs:List α}(hkeys:ax.map (·.1)=m.map (·.1))(h:R Q B w0 (FW aY E b (upd n xs m)::aT) F)
 (h1:az (gL aY b (upd n v ax)) kl k1:=by exact fB) (h2:az (ap E v xs) k1 k2:=by exact fB) (h3:az (Vo E n ax m) k2 aT:=by exact fB):R Q B w0 kl F:=
 .perm (λw S hS=>by
  obtain⟨S1,S2,q1,q2,hp⟩:=hS.jy (.cons h1 (.cons h2 (.cons h3 .nil)));obtain⟨T1,U1,u1,⟨T2,U2,u2,⟨T3,U3,u3,u4,e3⟩,e2⟩,e1⟩:=q1;have u4:U3=[]:=u4;subst u4 e3 e2 e1;obtain⟨V,v1,v2⟩:=eP.Js (Vs (E:=E) (n:=n) (v:=v) (xs:=xs) hkeys) (S:=T2++T3) (w:=w) ⟨T2,T3,u2,u3,rfl⟩;refine⟨(T1++V)++S2,⟨T1++V,S2,⟨upd n v ax,FX hkeys,⟨T1,V,u1,v1,rfl⟩⟩,q2,rfl⟩,hp.trans ?_⟩;rw[iK];exact List.Perm.append_right S2 (List.Perm.append_left T1 v2)) h
theorem afj(h:∀ax:List (κ×Value),ax.map (·.1)=m.map (·.1)->R Q B w0 (gL aY b ax::Vp E ax m::kl') F)(hk:az (FW aY E b m) kl kl':=by exact fB):R Q B w0 kl F:=λw s=>by
 obtain⟨S,⟨S1,S2,⟨ax,hkeys,T1,T2,u1,u2,e1⟩,q2,e⟩,hnd,hall⟩:=(s.fA hk).own;subst e e1;refine h ax hkeys w ⟨s.agree,s.le,s.fE,⟨T1++(T2++S2),⟨T1,_,u1,⟨T2,S2,u2,q2,rfl⟩,rfl⟩,?_,λi hi=>hall i ?_⟩,s.facts⟩
 ·rw[<- ed];exact hnd
 ·rw[ed];exact hi
theorem afk{ax:List (κ×Value)}(hkeys:ax.map (·.1)=m.map (·.1)):qO (Vp E ax m) [Vq E ax m]:=by
 intro w w' S hS hle hh hz f hf;rw[bO.1 hf];have hS:eP w (nR E ax m) S:=hS;clear hf;intro n v xs h1 h2;obtain⟨S',⟨T1,T2,u1,_,e⟩,hp⟩:=hS.fA (Ot hkeys h1 h2);subst e;exact jk w w' T1 u1 hle hh (λi hi=>hz i (hp.mem_iff.2 (kK _ hi))) _ (bO.2 rfl)
end
end Go.Ideal
namespace Go.Ideal
variable {P:Program} {B:List Nat} {w0:Wd} {kl kl' aT:List OA} {F:List aD} {K:KO} {ds:List Tmp} {rest:List bP} {n:Nat} {l:List (Nat×Value)} {D:List Deferred} {pm:Option FrameMode} {ro:Option Nat} {d:Nat} {g:Option (Tmp×Bool)}
theorem Vt{α:Type}(E:Enc α){x i:Operand}{v:Value}{xss:List (List α)}(k:Nat)(xs:List α){kk:IntKind}{d2:Nat}{g2:Option (Tmp×Bool)}(hz:xss[k]? =some xs)
 (next:∀b o u,R (λh=>aI P ds rest (act n ((d2,u)::(d,.pointer (some ⟨b,o,none⟩))::l) D pm ro) h K) B w0 kl (ah E u xs::F))
 (hn:Nat.blt d n=true:=by rfl) (hg:bM l g=true:=by rfl) (hn2:Nat.blt d2 n=true:=by rfl) (hg2:∀u,bM ((d,u)::l) g2=true:=by intro _;rfl) (hx:ev l x=v:=by conv=>lhs;whnf) (hi:ev l i=.int kk (k:Int):=by rfl)
 (hk:az (ap (aB E) v xss) kl kl':=by exact fB):
 R (λh=>aI P ds (⟨⟨some d,g,.mX 1 x i⟩,[]⟩::⟨⟨some d2,g2,.gI (.tmp d)⟩,[]⟩::rest) (act n l D pm ro) h K) B w0 kl F:=by
 intro w s;have s1:=s.fA hk;obtain⟨S,⟨S1,S2,p,p2,e⟩,h2,h3⟩:=s1.own;have hlt:=(aW.1 hz).1;rcases p with⟨h,_⟩|⟨b,o,f,cells,e1,hf,e2,hb,hcl,hel⟩
 ·rw[h]at hz;cases hz
 ·subst e1;obtain⟨y,u1,u2⟩:=hel k xs hz;have hc:cells[o+(k:Int).toNat*1]? =some y:=by
   have:=u1 0 y rfl;simpa[aB]using this
  refine Ip hn hg hx hi (by omega) (by omega) ?_;have hbS:b∈S:=by rw[e,e2];simp
  refine Fu hn2 (hg2 _) (by show lk _ d=_;simp[lk]) ⟨(h3 b hbS).2.1,hb⟩ hc (next _ _ y w ⟨s.agree,s.le,s.fE,s.own,λf hf=>?_⟩);rcases bN.1 hf with rfl|hf
  ·exact u2 _ (bO.2 rfl)
  ·exact s.facts f hf
end Go.Ideal
namespace Go.Ideal
variable {P:Program} {B:List Nat} {w0:Wd} {kl kl' aT k1 k2:List OA} {F:List aD} {Q:IH->Prop}
section
variable {β:Type} (A:Value->β->OA)
def uj(vs:List Value)(xss:List β):List OA:=(vs.zip xss).map λp=>A p.1 p.2
def nS(b:Nat)(xss:List β):OA:=
 ⟨λw S=>∃vs:List Value,vs.length=xss.length/\eP w (pt b (.cells vs)::uj A vs xss) S,λa h ⟨vs,h1,h2⟩=>⟨vs,h1,eP.loc a h h2⟩⟩
def Vu(vs:List Value)(xss:List β)(k:Nat):OA:=
 ⟨λw S=>eP w ((uj A vs xss).eraseIdx k) S,λa h hp=>eP.loc a h hp⟩
theorem Vv{vs:List Value}{xss:List β}{k:Nat}{v:Value}{xs:β}(hv:vs[k]? =some v)(hx:xss[k]? =some xs):(uj A vs xss)[k]? =some (A v xs):=by
 simp[uj,List.zip,dR,Rv,hv,hx]
theorem Vw{b:Nat}{xss:List β}{k:Nat}{xs:β}(hx:xss[k]? =some xs)(hk:az (nS A b xss) kl kl':=by exact fB)
 (h:∀(vs:List Value) (v:Value),vs.length=xss.length->vs[k]? =some v->R Q B w0 (pt b (.cells vs)::A v xs::Vu A vs xss k::kl') F):R Q B w0 kl F:=λw s=>by
 obtain⟨S,⟨S1,S2,⟨vs,h1,h2⟩,q2,e⟩,hnd,hall⟩:=(s.fA hk).own;subst e;have hlt:=(aW.1 hx).1;have hv:vs[k]? =some (vs[k]'(by omega)):=bC (by omega);refine h vs _ h1 hv w ?_;have hg:(uj A vs xss)[k]? =some (A (vs[k]'(by omega)) xs):=Vv A hv hx;obtain⟨T1,T2,u1,u2,e⟩:=h2;obtain⟨T3,⟨T4,T5,u4,u5,e5⟩,u6⟩:=u2.fA (az.at hg);subst e5 e;have hperm:((T1++T2)++S2).Perm (T1++(T4++(T5++S2))):=by
  rw[ed];refine List.Perm.append_left T1 ?_;rw[<- ed];exact List.Perm.append_right S2 u6
 exact⟨s.agree,s.le,s.fE,⟨T1++(T4++(T5++S2)),⟨T1,_,u1,⟨T4,_,u4,⟨T5,S2,u5,q2,rfl⟩,rfl⟩,rfl⟩,hperm.nodup hnd,λi hi=>hall i (hperm.mem_iff.2 hi)⟩,s.facts⟩
theorem afl{vs:List Value}{xss:List β}{k:Nat}{v:Value}{xs:β}:uj A (vs.set k v) (xss.set k xs)=(uj A vs xss).set k (A v xs):=by
 apply iF;intro j;simp only[uj,dR,mV,List.zip,Rv];by_cases e:k=j
 ·subst e;by_cases h1:k<vs.length
  ·by_cases h2:k<xss.length
   ·simp[h1,h2];omega
   ·simp[h1,h2];omega
  ·simp[h1];omega
 ·simp[e]
theorem Vx{b:Nat}{xss:List β}{vs:List Value}{k:Nat}{v:Value}{xs:β}(hlen:vs.length=xss.length)(hk:k<xss.length)(h1:az (pt b (.cells (vs.set k v))) kl k1:=by exact fB)
 (h2:az (A v xs) k1 k2:=by exact fB) (h3:az (Vu A vs xss k) k2 aT:=by exact fB) (h:R Q B w0 (nS A b (xss.set k xs)::aT) F):R Q B w0 kl F:=
 .perm (λw S hS=>by
  obtain⟨S1,S2,q1,q2,hp⟩:=hS.jy (.cons h1 (.cons h2 (.cons h3 .nil)));obtain⟨T1,U1,u1,⟨T2,U2,u2,⟨T3,U3,u3,u4,e3⟩,e2⟩,e1⟩:=q1;have u4:U3=[]:=u4;subst u4 e3 e2 e1;have hl:((uj A vs xss).set k (A v xs))[k]? =some (A v xs):=by
   rw[mV,if_pos rfl,if_pos (by simp[uj];omega)]
  obtain⟨V,v1,v2⟩:=eP.Js (az.at hl) (S:=T2++T3) (w:=w) ⟨T2,T3,u2,by rw[NW];exact u3,rfl⟩;refine⟨(T1++V)++S2,⟨T1++V,S2,⟨vs.set k v,by simp[hlen],⟨T1,V,u1,by rw[afl];exact v1,rfl⟩⟩,q2,rfl⟩,hp.trans ?_⟩;rw[iK];exact List.Perm.append_right S2 (List.Perm.append_left T1 v2)) h
theorem afm{b m:Nat}{v0:Value}{x0:β}(h0:∀w,(A v0 x0).p w [])(hk:az (pt b (.cells (List.replicate m v0))) kl kl':=by exact fB)(h:R Q B w0 (nS A b (List.replicate m x0)::kl') F):R Q B w0 kl F:=
 .perm (λw S hS=>by
  obtain⟨S',⟨T1,T2,u1,u2,e⟩,hp⟩:=hS.fA hk;refine⟨S',⟨T1,T2,⟨List.replicate m v0,by simp,⟨T1,[],u1,?_,by simp⟩⟩,u2,e⟩,hp⟩;have:∀m,eP w (uj A (List.replicate m v0) (List.replicate m x0)) []:=by
   intro m;induction m with
   |zero=>rfl
   |succ m ih=>exact⟨[],[],h0 w,ih,rfl⟩
  exact this m) h
theorem afn{E:Enc β}{b c:Nat}{xss:List β}(fv:Value->E.Y)(hn:E.n=1)(hpat:∀x v,E.pat x (fv v)=[v])(hA:∀v xs,qO (A v xs) (E.fs xs (fv v)))(hc:xss.length<=c:=by first|exact bB _|omega):qO (nS A b xss) [ah E (.slice (some ⟨b,0,some 0⟩) xss.length c) xss]:=by
 intro w w' S ⟨vs,hlen,T1,T2,⟨h1,h2⟩,u2,e⟩ hle hh hz f hf;subst e;rw[bO.1 hf];refine .inr ⟨b,0,0,c,vs,⟨rfl,hc,.inl rfl⟩,⟨hz b (by rw[h1];simp),.inl (by rw[hh];exact h2)⟩,λk xs hk=>?_⟩;have hlt:=(aW.1 hk).1;have hv:vs[k]? =some (vs[k]'(by omega)):=bC (by omega);have hg:(uj A vs xss)[k]? =some (A (vs[k]'(by omega)) xs):=Vv A hv hk;obtain⟨T3,⟨T4,T5,u4,u5,e5⟩,u6⟩:=u2.fA (az.at hg);subst e5;refine⟨fv (vs[k]'(by omega)),λj u hj=>?_,λg hgm=>?_⟩
 ·rw[hpat]at hj;match j,hj with
  |0,hj=>
   cases hj;show vs[0+k*E.n+0]? =_;rw[hn];simp
 ·exact hA _ _ w w' T4 u4 hle hh (λi hi=>hz i (om _ (u6.mem_iff.2 (kK _ hi)))) g hgm
end
def JJ{α:Type}(v:Value)(xs:List α):aD:=⟨λ_=>xs=[]->v=.slice none 0 0,λ_ h=>h⟩
def lF{α:Type}(E:Enc α)(v:Value)(xs:List α):OA:=⟨λw S=>(ap E v xs).p w S/\(xs=[]->v=.slice none 0 0),λa h hp=>⟨(ap E v xs).loc a h hp.1,hp.2⟩⟩
def uk{α:Type}(E:Enc α):Enc (List α):=⟨1,Value,λ_ v=>[v],λxs v=>[ah E v xs,JJ v xs],λ_ _=>rfl⟩
theorem afo{α:Type}{E:Enc α}{v:Value}{xs:List α}:qO (lF E v xs) [ah E v xs,JJ v xs]:=by
 intro w w' S hp hle hh hz f hf;rcases bN.1 hf with rfl|hf
 ·exact jk w w' S hp.1 hle hh hz _ (bO.2 rfl)
 ·rw[bO.1 hf];exact hp.2
theorem Vy{α:Type}(E:Enc α)(v:Value)(xs:List α)(h:(xs=[]->v=.slice none 0 0)->R Q B w0 (ap E v xs::kl') F)(hk:az (lF E v xs) kl kl':=by exact fB):R Q B w0 kl F:=λw s=>by
 obtain⟨S,⟨S1,S2,q1,q2,e⟩,h2,h3⟩:=(s.fA hk).own;exact h q1.2 w ⟨s.agree,s.le,s.fE,⟨S,⟨S1,S2,q1.1,q2,e⟩,h2,h3⟩,s.facts⟩
theorem Vz{α:Type}(E:Enc α)(v:Value)(xs:List α)(hz:xs=[]->v=.slice none 0 0)(h:R Q B w0 (lF E v xs::kl') F)(hk:az (ap E v xs) kl kl':=by exact fB):R Q B w0 kl F:=λw s=>
 h w ((s.fA hk).zy (A:=ap E v xs) λw S hp=>⟨hp,hz⟩)
theorem VA{α:Type}{E:Enc α}{v:Value}{xss:List (List α)}{w:Wd}(h:(ah (uk E) v xss).p w):(ah (aB E) v xss).p w:=by
 rcases h with h|⟨i,o,f,c,cells,h1,h2,h3⟩
 ·exact .inl h
 ·refine .inr ⟨i,o,f,c,cells,h1,h2,λk x hk=>?_⟩;obtain⟨y,q1,q2⟩:=h3 k x hk;exact⟨y,q1,λf hf=>q2 f (by rw[bO.1 hf];exact bR ..)⟩
theorem JK{A A':OA}(e:A=A')(h:R Q B w0 (A'::kl') F)(hk:az A kl kl':=by exact fB):R Q B w0 kl F:=by
 subst e;exact λw s=>h w (s.fA hk)
theorem St.VB{α:Type}{E:Enc α}{v:Value}{ay:List (α×E.Y)}{w:Wd}(h0:0<ay.length)(hall:(r9 E ay).p w)(s:St B w0 (ar E v ay::kl') F w):St B w0 (ap E v (ay.map (·.1))::kl') F w:=by
 obtain⟨S,⟨S1,S2,q1,q2,e⟩,h2,h3⟩:=s.own;refine⟨s.agree,s.le,s.fE,⟨S,⟨S1,S2,?_,q2,e⟩,h2,h3⟩,s.facts⟩;rcases q1 with⟨h4,_⟩|⟨b,f,h4,h5,h6,h7⟩
 ·rw[h4]at h0;simp at h0
 ·refine .inr ⟨b,0,f,_,by rw[bJ];exact h4,h5,h6,h7,by rw[wE,bJ,fw],λk x hk=>?_⟩;rw[dR]at hk;cases hp:ay[k]? with
  |none=>rw[hp]at hk;cases hk
  |some p=>
   rw[hp]at hk;cases hk;exact⟨p.2,λj u hj=>by rw[fw];exact wF hp hj,λf hf=>hall p (aR hp) f hf⟩
theorem VC{α:Type}{E:Enc α}{v:Value}{ay:List (α×E.Y)}(h0:0<ay.length)(h:R Q B w0 (ap E v (ay.map (·.1))::kl') F)(hfs:∀w,(∀f∈F,f.p w)->(r9 E ay).p w)(hk:az (ar E v ay) kl kl':=by exact fB):R Q B w0 kl F:=λw s=>
 h w (St.VB h0 (hfs w s.facts) (s.fA hk))
end Go.Ideal
namespace Go.Ideal
variable {P:Program}
def JL{α:Type}(P:Program)(vals:α->List Value)(fe:α->List aD)(fn:Fn)(first cap:List Value)(F:List aD)(X:List α->Prop):Prop:=
 ∀(S:Type) (inv:S->List OA) (ok:List α->S->Prop) (step:S->α->S×Bool) (s0:S) (ny:Fn) (y1 y2:List Value) (F':List aD),ok [] s0->
  (∀vs s x rest,ok vs s->X (vs++x::rest)->(step s x).2=true->ok (vs++[x]) (step s x).1)->
  (∀vs s x rest,ok vs s->X (vs++x::rest)->aQ P ny (y1++vals x) y2 (inv s) (fe x++F') (λ_:Unit=>.bool (step s x).2) (λ_=>inv (step s x).1) (λ_=>[]) (λ_=>True))->
  aQ P fn (first++[.func ny ⟨y1⟩ ⟨y2⟩]) cap (inv s0) (F++F') (λ_:List α=>.tuple ⟨[]⟩) (λxs=>inv (bS step s0 xs)) (λ_=>[]) X
theorem aQ.facts{Y:Type}{fn:Fn}{args cap:List Value}{kl:List OA}{F F2:List aD}{val:Y->Value}{kl':Y->List OA}{fs:Y->List aD}{pr:Y->Prop}(h:aQ P fn args cap kl F val kl' fs pr)(hF:∀f∈F,f∈F2):aQ P fn args cap kl F2 val kl' fs pr:=
 λB w s=>h B w ⟨s.agree,s.le,s.fE,s.own,λf hf=>s.facts f (hF f hf)⟩
section
variable {B:List Nat} {w0:Wd} {kl kl' aT:List OA} {F:List aD} {K:KO} {n:Nat} {l:List (Nat×Value)} {D:List Deferred} {pm:Option FrameMode} {ro:Option Nat}
theorem afp{S α Z:Type}{f:Operand}{ps:List Tmp}{assign body:dm}{fn:Fn}{first captured:List Value}{vals:α->List Value}{fe:α->List aD}{F1:List aD}{X:List α->Prop}(step:S->α->S×Out)(inv:S->List OA)(ok:List α->S->Prop)(s0:S)(h0:ok [] s0)
 (hok:∀vs s x rest,ok vs s->X (vs++x::rest)->(step s x).2=.normal->ok (vs++[x]) (step s x).1) (hit:JL P vals fe fn first captured F1 X)
 (hf:ev l f=.func fn ⟨first⟩ ⟨captured⟩) (hps:ps.all (λp=>Nat.blt p n)=true) (hlen:∀x,ps.length=(vals x).length) (hk:aO (inv s0) kl aT) (hF:Sub F1 F) (iC:∀s x,tY (step s x).2)
 (l3:α->Z->List (Nat×Value)) (k3:α->Z->List OA)
 (ha:∀(s:S) (x:α) (lo:Nat) (o:dJ) B w0,R (λh=>EV P assign (act n ((ps.zip (vals x)).reverse++l) [] none (some lo)) h (zN B w0 n (l3 x) lo o (λz=>k3 x z++inv s) (fe x++F))) B w0 (pt lo o::inv s) (fe x++F))
 (hb:∀(vs:List α) (s:S) (x:α) (rest:List α) (z:Z) (lo:Nat) (L:lm) B w0,ok vs s->X (vs++x::rest)->R (λh=>EV P body (act n (l3 x z) [] none (some lo)) h (tZ B w0 lo L (λ_:Unit=>(step s x).2) (λ_=>inv (step s x).1) (λ_=>[]) (λ_=>True))) B w0 (pt lo (.loop (oK L))::(k3 x z++inv s)) (fe x++F))
 (next:∀r xs,X xs->R (λh=>K (fM step s0 xs).2 (act n l ({target:=.collected r,args:= #[]}::D) pm none) h) B w0 (inv (fM step s0 xs).1++(pt r (.gT true)::aT)) F):
 R (λh=>EV P (.rangeFunc f ps assign body) (act n l D pm none) h K) B w0 kl F:=by
 refine Jp (Y:=List α) (k1:=inv s0) (F1:=F1++F) (De:=λ_=>.tuple ⟨[]⟩) (out:=λxs=>(fM step s0 xs).2) (k1':=λxs=>inv (fM step s0 xs).1) (fs:=λ_=>[]) (pr:=X) hf ?_ hk (hF.app (Sub.refl' F [])) (λr y hy=>next r y hy);intro lo r;have:=hit (S×Out) (λso=>pt lo (.loop (jl ⟨.ready,none,fU l,n,ps,assign,body,r⟩ so.2))::inv so.1) (λvs so=>so.2=.normal/\ok vs so.1) (λso x=>(step so.1 x,iY (step so.1 x).2)) (s0,.normal) (.yield lo) [] [] F ⟨rfl,h0⟩
  (λvs so x rest ho hx h=>by
    have h:iY (step so.1 x).2=true:=h;have hn:(step so.1 x).2=.normal:=by
     cases e:(step so.1 x).2 with
     |normal=>rfl
     |_=>rw[e]at h;cases h
    exact⟨hn,hok vs so.1 x rest ho.2 hx hn⟩)
  (λvs so x rest ho hx=>by
    obtain⟨s,o⟩:=so;obtain⟨hn,ho⟩:=ho;have hn:o=.normal:=hn;subst hn;exact Oh (Y:=Unit) (L:=⟨.ready,none,fU l,n,ps,assign,body,r⟩) (args:=vals x) (k1:=inv s) (out:=λ_=>(step s x).2) (k1':=λ_=>inv (step s x).1) (fs:=λ_=>[]) (pr:=λ_=>True) l (l3 x) (λz=>k3 x z++inv s) rfl rfl hps (hlen x)
     (λB w0=>ha s x lo _ B w0) (λz B w0=>hb vs s x rest z lo _ B w0 ho hx))
 have e:(λxs:List α=>pt lo (.loop (jl ⟨.ready,none,fU l,n,ps,assign,body,r⟩ (bS (λ(so:S×Out) x=>(step so.1 x,iY (step so.1 x).2)) (s0,.normal) xs).2))::inv (bS (λ(so:S×Out) x=>(step so.1 x,iY (step so.1 x).2)) (s0,.normal) xs).1)=λxs=>pt lo (.loop (jl ⟨.ready,none,fU l,n,ps,assign,body,r⟩ (fM step s0 xs).2))::inv (fM step s0 xs).1:=by
  funext xs
  rw[FJ]
 have h2:aQ P fn (first++[.func (.yield lo) ⟨[]⟩ ⟨[]⟩]) captured (pt lo (.loop ⟨.ready,none,fU l,n,ps,assign,body,r⟩)::inv s0) (F1++F) (λ_:List α=>.tuple ⟨[]⟩) (λxs=>pt lo (.loop (jl ⟨.ready,none,fU l,n,ps,assign,body,r⟩ (bS (λ(so:S×Out) x=>(step so.1 x,iY (step so.1 x).2)) (s0,.normal) xs).2))::inv (bS (λ(so:S×Out) x=>(step so.1 x,iY (step so.1 x).2)) (s0,.normal) xs).1) (λ_=>[]) X:=this;rw[e]at h2;exact h2
theorem VD{S α Z:Type}{f:Operand}{ps:List Tmp}{assign body:dm}{fn:Fn}{first captured:List Value}{vals:α->List Value}{fe:α->List aD}{F1:List aD}{X:List α->Prop}(step:S->α->S×Out)(inv:S->List OA)(ok:List α->S->Prop)(s0:S)(l3:α->Z->List (Nat×Value))(k3:α->Z->List OA)(h0:ok [] s0)
 (hok:∀vs s x rest,ok vs s->X (vs++x::rest)->(step s x).2=.normal->ok (vs++[x]) (step s x).1) (hit:JL P vals fe fn first captured F1 X)
 (ha:∀(s:S) (x:α) (lo:Nat) (o:dJ) B w0,R (λh=>EV P assign (act n ((ps.zip (vals x)).reverse++l) [] none (some lo)) h (zN B w0 n (l3 x) lo o (λz=>k3 x z++inv s) (fe x++F))) B w0 (pt lo o::inv s) (fe x++F))
 (hb:∀(vs:List α) (s:S) (x:α) (rest:List α) (z:Z) (lo:Nat) (L:lm) B w0,ok vs s->X (vs++x::rest)->R (λh=>EV P body (act n (l3 x z) [] none (some lo)) h (tZ B w0 lo L (λ_:Unit=>(step s x).2) (λ_=>inv (step s x).1) (λ_=>[]) (λ_=>True))) B w0 (pt lo (.loop (oK L))::(k3 x z++inv s)) (fe x++F))
 (next:∀r xs,X xs->R (λh=>K (fM step s0 xs).2 (act n l ({target:=.collected r,args:= #[]}::D) pm none) h) B w0 (inv (fM step s0 xs).1++(pt r (.gT true)::aT)) F)
 (iC:∀s x,tY (step s x).2)
 (hf:ev l f=.func fn ⟨first⟩ ⟨captured⟩:=by rfl) (hps:ps.all (λp=>Nat.blt p n)=true:=by rfl) (hlen:∀x,ps.length=(vals x).length:=by intro _;rfl)
 (hk:aO (inv s0) kl aT:=by exact l6) (hF:Sub F1 F:=by exact l5):
 R (λh=>EV P (.rangeFunc f ps assign body) (act n l D pm none) h K) B w0 kl F:=
 afp step inv ok s0 h0 hok hit hf hps hlen hk hF iC l3 k3 ha hb next
end
theorem afq{b o:Nat}{cs:List Value}{w:Wd}(m:Nat)(h:(bz b o cs).p w):(bz b (o+m) (cs.drop m)).p w:=by
 obtain⟨cells,h1,h2⟩:=h;exact⟨cells,h1,λj u hu=>by rw[oh]at hu;rw[pU];exact h2 _ u hu⟩
section
variable {B:List Nat} {w0:Wd} {kl:List OA} {F:List aD}
theorem afr{b:Nat}{cs ds:List Value}{Q:IH->Prop}(m:Nat)(hd:cs.drop m=ds)(h:R Q B w0 kl (bz b m ds::F))(hf:bz b 0 cs∈F:=by exact tX):R Q B w0 kl F:=
 fO _ (λw hw=>by have:=afq m (hw _ hf);rw[fw,hd]at this;exact this) h
theorem afs{α:Type}(E:Enc α){v:Value}{xs:List α}{k:Nat}{x:α}{Q:IH->Prop}(n:Nat)(hn:E.n=n)(hx:xs[k]? =some x)
 (h:∀b o f c y,v=.slice (some ⟨b,o,some f⟩) xs.length c->R Q B w0 kl (bz b (o+k*n) (E.pat x y)::(E.fs x y++F))) (hf:ah E v xs∈F:=by exact tX):R Q B w0 kl F:=λw s=>by
 subst hn;rcases s.facts _ hf with⟨h0,_⟩|⟨i,o,f,c,cells,⟨h1,_⟩,h2,h3⟩
 ·rw[h0]at hx;cases hx
 ·obtain⟨y,q1,q2⟩:=h3 k x hx;refine h i o f c y h1 w ⟨s.agree,s.le,s.fE,s.own,λg hg=>?_⟩;rcases bN.1 hg with rfl|hg
  ·exact⟨cells,h2,q1⟩
  ·rcases gH.1 hg with hg|hg
   ·exact q2 g hg
   ·exact s.facts g hg
end
end Go.Ideal
namespace Go.Ideal
variable {P:Program} {B:List Nat} {w0:Wd} {kl kl' aT:List OA} {F:List aD} {K:KO} {ds:List Tmp} {rest:List bP} {n:Nat} {l:List (Nat×Value)} {D:List Deferred} {pm:Option FrameMode} {ro:Option Nat} {d:Nat} {g:Option (Tmp×Bool)}
theorem VE{cs1 cs2 xs:List Value}(h:xs.length<=cs2.length):jq (cs1++cs2) cs1.length xs=some (cs1++(xs++cs2.drop xs.length)):=by
 obtain⟨r,hr⟩:=FP (cs1++cs2) cs1.length xs (by rw[gP];omega);obtain⟨h1,h2,h3⟩:=EH hr;rw[hr];congr 1;apply iF;intro j;rw[h3 j];by_cases c1:j<cs1.length
 ·rw[if_neg (by omega),ol c1,ol c1]
 ·by_cases c2:j<cs1.length+xs.length
  ·rw[if_pos ⟨by omega,c2⟩,mU (by omega),ol (by omega)]
  ·rw[if_neg (by omega),mU (by omega),mU (by omega),mU (by omega),oh];congr 1;omega
end Go.Ideal
namespace Go.Ideal
variable {P:Program}
