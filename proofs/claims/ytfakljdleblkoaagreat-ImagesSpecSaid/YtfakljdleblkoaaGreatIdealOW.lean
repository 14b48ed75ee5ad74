/-
  Part IdealOW.
-/
import Derived.Test.YtfakljdleblkoaaGreatIdealNW
set_option linter.all false
namespace Go.Ideal
variable {P:Program}
variable{ρ:Operand->Value}{x:Operand}
theorem Mw{src dst:TypeId}{kk k:IntKind}{n m:Int}{ds:TypeDesc}(hs:P.underlying src=some ds)(hd:P.underlying dst=some (.int k))(hx:ρ x=.int kk n)(hw:k.wrap n=m):Pu P ρ (.conv src dst x) (.int k m):=λh=>by
 have h1:dV P (convert src dst (.int kk n))=some (.int k m):=by
  unfold convert;rw[gY,rq hs];simp only[iV];rw[gY,rq hd];simp only[iV];rw[<- hw];rfl
 simp only[aB.run,hx,kv,h1];rfl
variable{a:Nat}
theorem acu(h:a<18446744073709551616):IntKind.u64.wrap (a:Int)=a:=by
 show(let m:=(a:Int)%(2^64:Int);if false&&m>=(2^63:Int)then m - (2^64:Int)else m)=_;simp only[JV,uS,if_false];rw[Int.emod_eq_of_lt vj (by simpa using(by omega:(a:Int)<18446744073709551616))]
theorem acv{y:Operand}{t:TypeId}{b:Nat}(hx:ρ x=.int .u64 (a:Int))(hy:ρ y=.int .u64 (b:Int))(hb:b<64):Pu P ρ (.bin .shr t x y) (.int .u64 ((a>>>b:Nat):Int)):=λh=>by
 have hv:dV P (binOp .shr t (.int .u64 (a:Int)) (.int .u64 (b:Int)))=some (.int .u64 ((a>>>b:Nat):Int)):=by
  show dV P (Op.shift .shr .u64 a .u64 b)=_;unfold Op.shift;rw[if_neg vj];show some (Value.int .u64 ((a:Int).fdiv (2^(min (b:Int).toNat 64))))=_;exact lR
 have h1:kv P (do eqGuard .shr t x y (.int .u64 (a:Int)) (.int .u64 (b:Int));binOp .shr t (.int .u64 (a:Int)) (.int .u64 (b:Int)))=some (.int .u64 ((a>>>b:Nat):Int)):=by
  unfold kv;rw[gY,BK (by intro c e;cases e) AF];simp only[iV,hv];rfl
 have h2:lU P .shr t x y (.int .u64 (a:Int)) (.int .u64 (b:Int))=some (.int .u64 ((a>>>b:Nat):Int)):=by
  unfold lU;have:(match uZ .u64 .u64 with|true=>pg .shr .u64 (a:Int) (b:Int)|false=>none)=none:=rfl;simp only[uZ,bY,JN,cond];exact h1
 simp only[aB.run,hx,hy,h2]
theorem acw{α:Type}[DecidableEq α]{aX:α->Value}{kt:TypeId}{d:TypeDesc}(hu:P.underlying kt=some d)(hn:∀a b,Instr.sameNow d (aX a) (aX b)=none)(he:∀a b,dV P (Op.equal kt (aX a) (aX b))=some (decide (a=b)))(a:α)(aj:List (α×Value))(es:List MapEntry)(h:oN aX aj es):sj P kt (aX a) es=some (oM a aj 0):=by
 have acy:∀(aj:List (α×Value)) (es:List MapEntry) (i:Nat),oN aX aj es->dV P (Instr.findAsking kt (aX a) es i)=some (oM a aj i):=by
  intro aj;induction aj with
  |nil=>
   intro es i h;exact s8
  |cons p aj ih=>
   intro es i h;obtain⟨e,es',rfl,h1,h2,h3⟩:=Ml h;unfold Instr.findAsking;rw[gY,h1,he];simp only[iV];unfold oM;by_cases hab:a=p.1
   ·rw[eY hab,if_pos hab,h2];rfl
   ·rw[aS hab,if_neg hab];exact ih es' (i+1) h3
 unfold sj Instr.findKey;rw[gY,rq hu];simp only[iV];cases aj with
 |nil=>
  exact s8
 |cons p aj=>
  have h':=h;obtain⟨e,es',rfl,h1,h2,h3⟩:=Ml h;have:Instr.findNow d (aX a) (e::es') 0=none:=by
   show(match Instr.sameNow d (aX a) e.key with
   |some true=>some (some (0,e.val))
   |some false=>Instr.findNow d (aX a) es' 1
   |none=>none)=_
   rw[h1,hn]
  rw[this];exact acy _ _ _ h'
abbrev Ad:Int×Int->Value:=λp=>.agg ⟨[.int .i64 p.1,.int .i64 p.2]⟩
theorem acz{kt e:TypeId}(hu:P.underlying kt=some (.array 2 e))(he:P.underlying e=some (.int .i64))(hs:P.info? e|>.map (·.size)|>(·=some 1))(hc:∀a b:Int,qO P kt (.agg ⟨[.int .i64 a,.int .i64 b]⟩)=true):rC P kt Ad where
 Er a:=hc a.1 a.2
 find a aj es h:=acw hu (λa b=>rfl) (λa b=>by
  have:=Sk (d:=9998) (xs:=[a.1,a.2]) (ys:=[b.1,b.2]) hu he hs rfl rfl;rw[show decide (a=b)=decide ([a.1,a.2]=[b.1,b.2])from nS.2 ⟨λh=>by rw[h],λh=>by
   injection h with h1 h2;injection h2 with h2;exact Prod.ext h1 h2⟩]
  exact this) a aj es h
 same a:=by
  show((⟨[Value.int .i64 a.1,.int .i64 a.2]⟩:Array Value).size==(⟨[Value.int .i64 a.1,.int .i64 a.2]⟩:Array Value).size&&(List.zip [Value.int .i64 a.1,.int .i64 a.2] [Value.int .i64 a.1,.int .i64 a.2]).all λ(x,y)=>Instr.sameBits 9999 x y)=true;simp[Instr.sameBits]
end Go.Ideal
namespace Go.Ideal
section
variable {P:Program}
variable {ds:List Tmp} {rest:List bT} {n:Nat} {l:List (Nat×Value)} {D:List Deferred} {pm:Option FrameMode} {ro:Option Nat} {h:IH} {K:KO} {d:Nat} {g:Option (Tmp×Bool)}
variable{re:List ik}
theorem Sr{op:aB}{v:Value}{h':IH}(hn:Nat.blt d n=true)(hg:bZ l g=true)(hr:op.run P (ev l) h=some (v,h'))
 (hsm:∀q∈re,∃u h2,q.op.run P (ev ((d,v)::l)) h'=some (u,h2)/\∀d',q.dst=some d'->lk ((d,v)::l) d'=u)
 (next:aG P ds rest (act n ((d,v)::l) D pm ro) h' K):aG P ds (⟨⟨some d,g,op⟩,re⟩::rest) (act n l D pm ro) h K:=
 .kW (vD hg) v h' AE (λq hq _=>by
  obtain⟨u,h2,e1,e2⟩:=hsm q hq;exact lE) A5
variable{e:TypeId}{size bytes k:Nat}{s x:Operand}{xs:List Value}
theorem acA{b o m:Nat}{f:Option Nat}{old:List Value}(hn:Nat.blt d n=true)(hg:bZ l g=true)
 (hs:ev l s=.slice (some ⟨b,o,f⟩) m m) (hx:oH (ev l x)=some (k+1)) (hxs:mX size (k+1) (ev l x) h=some xs) (hold:h.iW b o (m*size)=some old)
 (hf:f=some 0\/f=some size) (hm:(m+(k+1))*bytes<=1073741824/\(m+(k+1))*size<=1073741824/\m+(k+1)<=1073741824)
 (hsm:∀h',zR h h' b (.cells (old++xs))->∀q∈re,∃u h2,q.op.run P (ev ((d,.slice (some ⟨h.next,0,some size⟩) (m+(k+1)) (m+(k+1)))::l)) h'=some (u,h2)/\∀d',q.dst=some d'->lk ((d,.slice (some ⟨h.next,0,some size⟩) (m+(k+1)) (m+(k+1)))::l) d'=u)
 (next:∀h',zR h h' b (.cells (old++xs))->aG P ds rest (act n ((d,.slice (some ⟨h.next,0,some size⟩) (m+(k+1)) (m+(k+1)))::l) D pm ro) h' K):
 aG P ds (⟨⟨some d,g,.append e size bytes s x⟩,re⟩::rest) (act n l D pm ro) h K:=by
 have hle:∀{a b:Nat},a<=b->Nat.ble a b=true:=λh=>by rw[uR];exact h
 have hlt:Nat.ble (m+(k+1)) m=false:=by
  exact tv
 have hc:(Nat.ble (Nat.mul (m+(k+1)) bytes) small&&Nat.ble (Nat.mul (m+(k+1)) size) small&&Nat.ble (m+(k+1)) small)=true:=by
  exact mm
 have hrun:∃h',(aB.append e size bytes s x).run P (ev l) h=some (.slice (some ⟨h.next,0,some size⟩) (m+(k+1)) (m+(k+1)),h')/\zR h h' b (.cells (old++xs)):=by
  exact cJ
 obtain⟨h',hr,hM⟩:=hrun;exact Sr hn hg hr (hsm h' hM) (next h' hM)
theorem acB{c:Nat}(hn:Nat.blt d n=true)(hg:bZ l g=true)
 (hs:ev l s=.slice none 0 0) (hx:oH (ev l x)=some (k+1)) (hxs:mX size (k+1) (ev l x) h=some xs)
 (hm:(k+1)*bytes<=1073741824/\(k+1)*size<=1073741824/\(k+1)<=1073741824)
 (hsm:∀h',Agree h h'->At h' h.next (.cells xs)->h'.next=h.next+1->∀q∈re,∃u h2,q.op.run P (ev ((d,.slice (some ⟨h.next,0,some size⟩) (k+1) (k+1))::l)) h'=some (u,h2)/\∀d',q.dst=some d'->lk ((d,.slice (some ⟨h.next,0,some size⟩) (k+1) (k+1))::l) d'=u)
 (next:∀h',Agree h h'->At h' h.next (.cells xs)->h'.next=h.next+1->aG P ds rest (act n ((d,.slice (some ⟨h.next,0,some size⟩) (k+1) (k+1))::l) D pm ro) h' K):
 aG P ds (⟨⟨some d,g,.append e size bytes s x⟩,re⟩::rest) (act n l D pm ro) h K:=by
 have hle:∀{a b:Nat},a<=b->Nat.ble a b=true:=λh=>by rw[uR];exact h
 have e0:Nat.add 0 (k+1)=k+1:=fC _;refine Sr hn hg (h':=h.new (.cells xs)) ?_ (hsm _ (LA _ _) (LB _ _) rfl) (next _ (LA _ _) (LB _ _) rfl);have zS:xV size (k+1) (ev l x) h=some xs:=hxs;simp only[aB.run,hx,zS,hs,wE,e0];rw[hle (show Nat.mul (k+1) bytes<=small from hm.1),hle (show Nat.mul (k+1) size<=small from hm.2.1),hle (show k+1<=small from hm.2.2)];have e1:mX size 0 (.slice none 0 0) h=some []:=by
  show(match (0:Nat)with|0=>some ([]:List Value)|_=>none)=_;rfl
 have e2:Nat.ble (k+1) 0=false:=rfl;simp only[JN,cond_true,e2,cond_false,e1,jF,dX]
end
section
variable {P:Program}
variable {ρ:Operand->Value}
variable {B:List Nat} {w0:Wd} {kl kl':List OA} {F:List aK} {a:aV} {K:KO}
variable {y:dB} {i j m0:Nat} {I:Nat->aV->IH->Prop} {ch:List PanicEntry}
variable {B:List Nat} {w0:Wd} {kl kl':List OA} {F:List aK} {K:KO} {ds:List Tmp} {rest:List bT} {n:Nat} {l:List (Nat×Value)} {D:List Deferred} {pm:Option FrameMode} {ro:Option Nat} {d:Nat} {g:Option (Tmp×Bool)}
theorem acC{re:List ik}{α:Type}{E:Enc α}{e:TypeId}{size bytes b':Nat}{s x:Operand}{v:Value}{xs:List α}{a:α}{y:E.Y}{cs:List Value}{k1 k2:List OA}(hn:Nat.blt d n=true)(hg:bZ l g=true)
 (hs:ev l s=v) (hx:ev l x=.slice (some ⟨b',0,some 0⟩) 1 1) (hk:ay (ap E v xs) kl k1) (hc:ay (pt b' (.cells cs)) k1 k2) (hp:cs=E.pat a y) (hF:Sub (E.fs a y) F) (hz:E.n=size)
 (hm:(xs.length+1)*bytes<=1073741824/\(xs.length+1)*size<=1073741824/\xs.length+1<=1073741824)
 (hsm:∀ad,Same P re (ev ((d,.slice ad (xs.length+1) (xs.length+1))::l)) ((d,.slice ad (xs.length+1) (xs.length+1))::l) B w0 (ap E (.slice ad (xs.length+1) (xs.length+1)) (xs++[a])::k2) F)
 (r:∀ad,R (λh=>aG P ds rest (act n ((d,.slice ad (xs.length+1) (xs.length+1))::l) D pm ro) h K) B w0 (ap E (.slice ad (xs.length+1) (xs.length+1)) (xs++[a])::k2) F):
 R (λh=>aG P ds (⟨⟨some d,g,.append e size bytes s x⟩,re⟩::rest) (act n l D pm ro) h K) B w0 kl F:=by
 intro w st;subst hp hz;have hlen:=E.len a y;have st2:St B w0 (ap E v xs::pt b' (.cells (E.pat a y))::k2) F w:=st.j4 (.cons hk (.cons hc .nil));have hat:At w.h b' (.cells (E.pat a y)):=st2.at_ (.there .here);have qZ:St B w0 (ap E v xs::k2) F w:=(st2.gK (.there .here)).tail;have hfs:∀f∈E.fs a y,f.p w:=λf hf=>st.facts f (hF.mem f hf);have hread:w.h.iW b' 0 (1*E.n)=some (E.pat a y):=by
  rw[hat.c.iW,qV,sD,A7,CS,if_pos vj,<- hlen,bJ]
 have hx1:oH (ev l x)=some (0+1):=by rw[hx];rfl
 have hx2:mX E.n (0+1) (ev l x) w.h=some (E.pat a y):=by rw[hx];exact hread
 -- what lies there afterwards
 have put:∀(w':Wd) (c:Nat) (f:Nat) (cells:List Value),cells.length=xs.length*E.n->(∀(k:Nat) z,xs[k]? =some z->∃y,(∀(j:Nat) u,(E.pat z y)[j]? =some u->cells[k*E.n+j]? =some u)/\∀f∈E.fs z y,f.p w')->(∀f∈E.fs a y,f.p w')->
  (f=0\/f=E.n)->∀S,(pt c (.cells (cells++E.pat a y))).p w' S->(ap E (.slice (some ⟨c,0,some f⟩) (xs.length+1) (xs.length+1)) (xs++[a])).p w' S:=by
  intro w' c f cells h1 h2 h3 h4 S hp;refine .inr ⟨c,0,f,_,by rw[iE];rfl,h4,hp.1,hp.2,by rw[iE,iE,h1,hlen,zk,rW,A7,fC],λk z hk=>?_⟩;by_cases hlt:k<xs.length
  ·exact nl
  ·exact j7
 obtain⟨S,⟨S1,S2,q,q2,e1⟩,hnd,hown⟩:=qZ.own;rcases q with⟨rfl,rfl,rfl⟩|⟨b,o,f,cells,rfl,hf,rfl,hb,hcl,hel⟩
 ·have key:∀h',Agree w.h h'->At h' w.h.next (.cells (E.pat a y))->h'.next=w.h.next+1->∃w':Wd,w'.h=h'/\St B w0 (ap E (.slice (some ⟨w.h.next,0,some E.n⟩) (([]:List α).length+1) (([]:List α).length+1)) ([]++[a])::k2) F w':=λh' ag sO hnx=>by
   obtain⟨w',rfl,lF⟩:=qZ.tail.fresh ag sO hnx;refine⟨w',rfl,?_⟩;have hle:∀f∈E.fs a y,f.p w':=λf hf=>lF.facts f (hF.mem f hf);exact lF.BI λS hp=>put w' _ E.n [] vm (λk z hk=>by cases hk) hle (.inr rfl) S hp
  refine acB (c:=0) hn hg hs hx1 hx2 (by simpa using hm) (λh' ag sO hnx=>?_) λh' ag sO hnx=>?_
  ·obtain⟨w',rfl,lF⟩:=key h' ag sO hnx;exact hsm _ w' lF
  ·obtain⟨w',rfl,lF⟩:=key h' ag sO hnx;exact r _ w' lF
 ·have D9:St B w0 (pt b (.cells cells)::k2) F w:=⟨qZ.agree,qZ.le,qZ.gF,⟨S,⟨_,S2,⟨rfl,hb⟩,q2,e1⟩,hnd,hown⟩,qZ.facts⟩
  have L6:At w.h b (.cells cells):=D9.at_ .here;have key:∀h',zR w.h h' b (.cells (cells.drop o++E.pat a y))->∃w':Wd,w'.h=h'/\St B w0 (ap E (.slice (some ⟨w.h.next,0,some E.n⟩) (xs.length+1) (xs.length+1)) (xs++[a])::k2) F w':=λh' mv=>by
   obtain⟨w',rfl,lF,Ho⟩:=D9.move mv;refine⟨w',rfl,lF.BI λS hp=>?_⟩;exact fg
  refine acA (old:=cells.drop o) (xs:=E.pat a y) hn hg hs hx1 hx2 ?_ (hf.elim (λe=>.inl xT) λe=>.inr xT) hm (λh' mv=>?_) λh' mv=>?_
  ·exact oT
  ·obtain⟨w',rfl,lF⟩:=key h' mv;exact hsm _ w' lF
  ·obtain⟨w',rfl,lF⟩:=key h' mv;exact r _ w' lF
end
section
variable {P:Program} {B:List Nat} {w0:Wd} {kl kl' bG:List OA} {F:List aK} {K:KO} {n:Nat} {l:List (Nat×Value)} {D:List Deferred} {pm:Option FrameMode} {ro:Option Nat}
theorem Su{re:List ik}{α:Type}(E:Enc α){ds:List Tmp}{rest:List bT}{d:Nat}{g:Option (Tmp×Bool)}{e:TypeId}{size bytes b':Nat}{s x:Operand}{v:Value}{xs:List α}(a:α)(y:E.Y){cs:List Value}{k1 k2:List OA}
 (hm:(xs.length+1)*bytes<=1073741824/\(xs.length+1)*size<=1073741824/\xs.length+1<=1073741824)
 (next:∀ad,R (λh=>aG P ds rest (act n ((d,.slice ad (xs.length+1) (xs.length+1))::l) D pm ro) h K) B w0 (ap E (.slice ad (xs.length+1) (xs.length+1)) (xs++[a])::k2) F)
 (hn:Nat.blt d n=true:=by rfl) (hg:bZ l g=true:=by rfl)
 (hs:ev l s=v:=by conv=>lhs;whnf) (hx:ev l x=.slice (some ⟨b',0,some 0⟩) 1 1:=by rfl) (hk:ay (ap E v xs) kl k1:=by exact iw) (hc:ay (pt b' (.cells cs)) k1 k2:=by exact iw) (hp:cs=E.pat a y:=by rfl) (hF:Sub (E.fs a y) F:=by exact oJ) (hz:E.n=size:=by rfl)
 (hsm:∀ad,Same P re (ev ((d,.slice ad (xs.length+1) (xs.length+1))::l)) ((d,.slice ad (xs.length+1) (xs.length+1))::l) B w0 (ap E (.slice ad (xs.length+1) (xs.length+1)) (xs++[a])::k2) F:=by intro _;repeat (first|exact BL|refine BM rfl xb wl rfl ?_|refine Ea rfl (by(repeat (first|with_reducible exact cZ .. |with_reducible apply dA));first|done|fail) wl rfl ?_|refine Eb rfl (by(repeat (first|with_reducible exact cZ .. |with_reducible apply dA));first|done|fail) wl rfl ?_|refine Ec rfl xb wl rfl ?_|refine Ed rfl (by(repeat (first|with_reducible exact cZ .. |with_reducible apply dA));first|done|fail) wl rfl ?_|refine Ee rfl (by(repeat (first|with_reducible exact cZ .. |with_reducible apply dA));first|done|fail) wl rfl ?_|refine Rm CM rfl ?_)):
 R (λh=>aG P ds (⟨⟨some d,g,.append e size bytes s x⟩,re⟩::rest) (act n l D pm ro) h K) B w0 kl F:=
 acC hn hg hs hx hk hc hp hF hz hm hsm next
end
end Go.Ideal
namespace Go.Ideal
variable {P:Program}
section
variable {α κ:Type} [DecidableEq κ] {aX:κ->Value} {E:Enc α}
def nL(E:Enc α):List (κ×Value)->List (κ×List α)->List OA
 |p::aj,q::m=>ap E p.2 q.2::nL E aj m
 |_,_=>[]
def sS(E:Enc α)(n:κ):List (κ×Value)->List (κ×List α)->List OA
 |p::aj,q::m=>if n=p.1 then nL E aj m else ap E p.2 q.2::sS E n aj m
 |_,_=>[]
def Ez(aX:κ->Value)(E:Enc α)(b:Nat)(m:List (κ×List α)):OA:=
 ⟨λw S=>∃aj:List (κ×Value),aj.map (·.1)=m.map (·.1)/\fB w (gI aX b aj::nL E aj m) S,λa h ⟨aj,h1,h2⟩=>⟨aj,h1,fB.loc a h h2⟩⟩
def Sv(E:Enc α)(n:κ)(aj:List (κ×Value))(m:List (κ×List α)):OA:=⟨λw S=>fB w (sS E n aj m) S,λa h hp=>fB.loc a h hp⟩
def Sw(E:Enc α)(aj:List (κ×Value))(m:List (κ×List α)):OA:=⟨λw S=>fB w (nL E aj m) S,λa h hp=>fB.loc a h hp⟩
def Sy(E:Enc α)(aj:List (κ×Value))(m:List (κ×List α)):aK:=
 ⟨λw=>∀n v xs,dG n aj=some v->dG n m=some xs->(ai E v xs).p w,λa h n v xs h1 h2=>(ai E v xs).mono a (h n v xs h1 h2)⟩
theorem Mx{β γ:Type}{n:κ}:∀{aj:List (κ×β)} {m:List (κ×γ)},aj.map (·.1)=m.map (·.1)->(dG n aj=none↔dG n m=none)
 |[],[],_=>⟨λ_=>rfl,λ_=>rfl⟩
 |(a,u)::aj,(b,x)::m,h=>by
  rw[ic,ic]at h;injection h with h1 h2;have h1:a=b:=h1;subst h1;unfold dG;by_cases e:n=a
  ·rw[if_pos e,if_pos e];exact⟨λh=>(nomatch h),λh=>(nomatch h)⟩
  ·rw[if_neg e,if_neg e];exact Mx h2
 |[],_::_,h=>by cases h
 |_::_,[],h=>by cases h
theorem Sz{n:κ}:∀{aj:List (κ×Value)} {m:List (κ×List α)},dG n aj=none->sS E n aj m=nL E aj m
 |[],_,_=>by unfold sS nL;rfl
 |_::_,[],_=>by unfold sS nL;rfl
 |(a,u)::aj,(b,x)::m,h=>by
  unfold dG at h;by_cases e:n=a
  ·rw[if_pos e]at h;cases h
  ·rw[if_neg e]at h;unfold sS nL;rw[if_neg e,Sz h]
theorem MB{n:κ}{v:Value}{xs:List α}:∀{aj:List (κ×Value)} {m:List (κ×List α)},aj.map (·.1)=m.map (·.1)->dG n aj=some v->dG n m=some xs->ay (ap E v xs) (nL E aj m) (sS E n aj m)
 |[],_,_,h,_=>by cases h
 |_::_,[],h,_,_=>by cases h
 |(a,u)::aj,(b,x)::m,h,h1,h2=>by
  rw[ic,ic]at h;injection h with e1 e2;have e1:a=b:=e1;subst e1;unfold dG at h1 h2;unfold nL sS;by_cases e:n=a
  ·rw[if_pos e]at h1 h2⊢;cases h1;cases h2;exact .here
  ·rw[if_neg e]at h1 h2⊢;exact .there (MB e2 h1 h2)
theorem SA{n:κ}{v:Value}{xs:List α}:∀{aj:List (κ×Value)} {m:List (κ×List α)},aj.map (·.1)=m.map (·.1)->ay (ap E v xs) (nL E (upd n v aj) (upd n xs m)) (sS E n aj m)
 |[],[],_=>by unfold upd sS nL nL;exact .here
 |[],_::_,h=>by cases h
 |_::_,[],h=>by cases h
 |(a,u)::aj,(b,x)::m,h=>by
  rw[ic,ic]at h;injection h with e1 e2;have e1:a=b:=e1;subst e1;unfold upd sS;by_cases e:n=a
  ·rw[if_pos e,if_pos e,if_pos e];rw[show nL E ((n,v)::aj) ((n,xs)::m)=ap E v xs::nL E aj m from rfl];exact .here
  ·rw[if_neg e,if_neg e,if_neg e];rw[show nL E ((a,u)::upd n v aj) ((a,x)::upd n xs m)=ap E u x::nL E (upd n v aj) (upd n xs m)from rfl];exact .there (SA e2)
theorem EA{β γ:Type}{n:κ}{v:β}{x:γ}:∀{aj:List (κ×β)} {m:List (κ×γ)},aj.map (·.1)=m.map (·.1)->(upd n v aj).map (·.1)=(upd n x m).map (·.1)
 |[],[],_=>rfl
 |[],_::_,h=>by cases h
 |_::_,[],h=>by cases h
 |(a,u)::aj,(b,y)::m,h=>by
  rw[ic,ic]at h;injection h with e1 e2;have e1:a=b:=e1;subst e1;unfold upd;by_cases e:n=a
  ·rw[if_pos e,if_pos e,ic,ic,e2]
  ·rw[if_neg e,if_neg e,ic,ic,EA e2]
variable {B:List Nat} {w0:Wd} {kl kl' bG k1 k2:List OA} {F:List aK} {Q:IH->Prop} {b:Nat} {m:List (κ×List α)}
theorem acD(E:Enc α)(h:R Q B w0 (Ez aX E b ([]:List (κ×List α))::kl') F)(hk:ay (gI aX b []) kl kl':=by exact iw):R Q B w0 kl F:=
 .perm (λw S hS=>by
  obtain⟨S',⟨T1,T2,u1,u2,e⟩,hp⟩:=hS.gK hk;exact⟨S',⟨T1,T2,⟨[],rfl,T1,[],u1,rfl,vm⟩,u2,e⟩,hp⟩) h
theorem acE(n:κ)(hk:ay (Ez aX E b m) kl kl':=by exact iw)
 (h:∀(aj:List (κ×Value)) (v:Value),aj.map (·.1)=m.map (·.1)->kG false (.slice none 0 0) n aj=v->R Q B w0 (gI aX b aj::ap E v ((dG n m).getD [])::Sv E n aj m::kl') F):R Q B w0 kl F:=λw s=>by
 obtain⟨S,⟨S1,S2,⟨aj,hkeys,T1,T2,u1,u2,e1⟩,q2,e⟩,hnd,hall⟩:=(s.gK hk).own;have key:∃T',fB w (ap E (kG false (.slice none 0 0) n aj) ((dG n m).getD [])::sS E n aj m) T'/\T2.Perm T':=by
  cases hl:dG n aj with
  |none=>
   have hm:=(Mx (n:=n) hkeys).1 hl;have e1:kG false (.slice none 0 0) n aj=.slice none 0 0:=by unfold kG;rw[hl];rfl
   rw[e1,hm,Sz hl];exact⟨T2,⟨[],T2,.inl ⟨rfl,rfl,rfl⟩,u2,rfl⟩,.refl _⟩
  |some v=>
   cases hm:dG n m with
   |none=>rw[(Mx (n:=n) hkeys).2 hm]at hl;cases hl
   |some xs=>
    have e1:kG false (.slice none 0 0) n aj=v:=by unfold kG;rw[hl];rfl
    rw[e1];exact u2.gK (MB hkeys hl hm)
 obtain⟨T',⟨T3,T4,u3,u4,e3⟩,hp⟩:=key;subst e e1 e3;have hperm:((T1++T2)++S2).Perm (T1++(T3++(T4++S2))):=by
  rw[fU];refine List.Perm.append_left T1 ?_;rw[<- fU];exact List.Perm.append_right S2 hp
 exact h aj _ hkeys rfl w ⟨s.agree,s.le,s.gF,⟨_,⟨T1,_,u1,⟨T3,_,u3,⟨T4,S2,u4,q2,rfl⟩,rfl⟩,rfl⟩,hperm.nodup hnd,λi hi=>hall i (hperm.mem_iff.2 hi)⟩,s.facts⟩
theorem acF(n:κ){aj:List (κ×Value)}{v:Value}{xs:List α}(hkeys:aj.map (·.1)=m.map (·.1))(h:R Q B w0 (Ez aX E b (upd n xs m)::bG) F)
 (h1:ay (gI aX b (upd n v aj)) kl k1:=by exact iw) (h2:ay (ap E v xs) k1 k2:=by exact iw) (h3:ay (Sv E n aj m) k2 bG:=by exact iw):R Q B w0 kl F:=
 .perm (λw S hS=>by
  obtain⟨S1,S2,q1,q2,hp⟩:=hS.j4 (.cons h1 (.cons h2 (.cons h3 .nil)));obtain⟨T1,U1,u1,⟨T2,U2,u2,⟨T3,U3,u3,u4,e3⟩,e2⟩,e1⟩:=q1;have u4:U3=[]:=u4;subst u4 e3 e2 e1;obtain⟨V,v1,v2⟩:=fB.Mi (SA (E:=E) (n:=n) (v:=v) (xs:=xs) hkeys) (S:=T2++T3) (w:=w) ⟨T2,T3,u2,u3,rfl⟩;refine⟨(T1++V)++S2,⟨T1++V,S2,⟨upd n v aj,EA hkeys,⟨T1,V,u1,v1,rfl⟩⟩,q2,rfl⟩,hp.trans ?_⟩;exact tt) h
theorem acG(h:∀aj:List (κ×Value),aj.map (·.1)=m.map (·.1)->R Q B w0 (gI aX b aj::Sw E aj m::kl') F)(hk:ay (Ez aX E b m) kl kl':=by exact iw):R Q B w0 kl F:=λw s=>by
 obtain⟨S,⟨S1,S2,⟨aj,hkeys,T1,T2,u1,u2,e1⟩,q2,e⟩,hnd,hall⟩:=(s.gK hk).own;subst e e1;refine h aj hkeys w ⟨s.agree,s.le,s.gF,⟨T1++(T2++S2),⟨T1,_,u1,⟨T2,S2,u2,q2,rfl⟩,rfl⟩,?_,λi hi=>hall i ?_⟩,s.facts⟩
 ·rw[<- fU];exact hnd
 ·rw[fU];exact hi
theorem acH{aj:List (κ×Value)}(hkeys:aj.map (·.1)=m.map (·.1)):uz (Sw E aj m) [Sy E aj m]:=by
 intro w w' S hS hle hh hz f hf;rw[bK.1 hf];have hS:fB w (nL E aj m) S:=hS;clear hf;intro n v xs h1 h2;obtain⟨S',⟨T1,T2,u1,_,e⟩,hp⟩:=hS.gK (MB hkeys h1 h2);subst e;exact fQ w w' T1 u1 hle hh (λi hi=>hz i (hp.mem_iff.2 (jW _ hi))) _ (bK.2 rfl)
end
end Go.Ideal
namespace Go.Ideal
variable {P:Program} {B:List Nat} {w0:Wd} {kl kl' bG:List OA} {F:List aK} {K:KO} {ds:List Tmp} {rest:List bT} {n:Nat} {l:List (Nat×Value)} {D:List Deferred} {pm:Option FrameMode} {ro:Option Nat} {d:Nat} {g:Option (Tmp×Bool)}
theorem Io{α:Type}(E:Enc α){x i:Operand}{v:Value}{xss:List (List α)}(k:Nat)(xs:List α){kk:IntKind}{d2:Nat}{g2:Option (Tmp×Bool)}(hz:xss[k]? =some xs)
 (next:∀b o u,R (λh=>aG P ds rest (act n ((d2,u)::(d,.pointer (some ⟨b,o,none⟩))::l) D pm ro) h K) B w0 kl (ai E u xs::F))
 (hn:Nat.blt d n=true:=by rfl) (hg:bZ l g=true:=by rfl) (hn2:Nat.blt d2 n=true:=by rfl) (hg2:∀u,bZ ((d,u)::l) g2=true:=by intro _;rfl) (hx:ev l x=v:=by conv=>lhs;whnf) (hi:ev l i=.int kk (k:Int):=by rfl)
 (hk:ay (ap (ak E) v xss) kl kl':=by exact iw):
 R (λh=>aG P ds (⟨⟨some d,g,.nG 1 x i⟩,[]⟩::⟨⟨some d2,g2,.gB (.tmp d)⟩,[]⟩::rest) (act n l D pm ro) h K) B w0 kl F:=by
 intro w s;have s1:=s.gK hk;obtain⟨S,⟨S1,S2,p,p2,e⟩,h2,h3⟩:=s1.own;have hlt:=(bC.1 hz).1;rcases p with⟨h,_⟩|⟨b,o,f,cells,e1,hf,e2,hb,hcl,hel⟩
 ·rw[h]at hz;cases hz
 ·subst e1;obtain⟨y,u1,u2⟩:=hel k xs hz;have hc:cells[o+(k:Int).toNat*1]? =some y:=by
   have:=u1 0 y rfl;simpa[ak]using this
  refine LG hn hg hx hi vj vj ?_;have hbS:b∈S:=Bk
  refine Gv hn2 (hg2 _) Bm ⟨(h3 b hbS).2.1,hb⟩ hc (next _ _ y w ⟨s.agree,s.le,s.gF,s.own,λf hf=>?_⟩);rcases dH.1 hf with rfl|hf
  ·exact u2 _ (bK.2 rfl)
  ·exact s.facts f hf
end Go.Ideal
namespace Go.Ideal
variable {P:Program} {B:List Nat} {w0:Wd} {kl kl' bG k1 k2:List OA} {F:List aK} {Q:IH->Prop}
section
variable {β:Type} (A:Value->β->OA)
def sU(vs:List Value)(xss:List β):List OA:=(vs.zip xss).map λp=>A p.1 p.2
def nM(b:Nat)(xss:List β):OA:=
 ⟨λw S=>∃vs:List Value,vs.length=xss.length/\fB w (pt b (.cells vs)::sU A vs xss) S,λa h ⟨vs,h1,h2⟩=>⟨vs,h1,fB.loc a h h2⟩⟩
def SB(vs:List Value)(xss:List β)(k:Nat):OA:=
 ⟨λw S=>fB w ((sU A vs xss).eraseIdx k) S,λa h hp=>fB.loc a h hp⟩
variable{xss:List β}{k:Nat}{vs:List Value}{v:Value}{xs:β}
theorem SC(hv:vs[k]? =some v)(hx:xss[k]? =some xs):(sU A vs xss)[k]? =some (A v xs):=by
 simp[sU,List.zip,dK,List.getElem?_zipWith,hv,hx]
variable{b:Nat}
theorem SE(hx:xss[k]? =some xs)(hk:ay (nM A b xss) kl kl':=by exact iw)
 (h:∀(vs:List Value) (v:Value),vs.length=xss.length->vs[k]? =some v->R Q B w0 (pt b (.cells vs)::A v xs::SB A vs xss k::kl') F):R Q B w0 kl F:=λw s=>by
 obtain⟨S,⟨S1,S2,⟨vs,h1,h2⟩,q2,e⟩,hnd,hall⟩:=(s.gK hk).own;subst e;have hlt:=(bC.1 hx).1;have hv:vs[k]? =some (vs[k]'(vj)):=bW vj;refine h vs _ h1 hv w ?_;have hg:(sU A vs xss)[k]? =some (A (vs[k]'(vj)) xs):=SC A hv hx;obtain⟨T1,T2,u1,u2,e⟩:=h2;obtain⟨T3,⟨T4,T5,u4,u5,e5⟩,u6⟩:=u2.gK (ay.at hg);subst e5 e;have hperm:((T1++T2)++S2).Perm (T1++(T4++(T5++S2))):=by
  rw[fU];refine List.Perm.append_left T1 ?_;rw[<- fU];exact List.Perm.append_right S2 u6
 exact⟨s.agree,s.le,s.gF,⟨T1++(T4++(T5++S2)),⟨T1,_,u1,⟨T4,_,u4,⟨T5,S2,u5,q2,rfl⟩,rfl⟩,rfl⟩,hperm.nodup hnd,λi hi=>hall i (hperm.mem_iff.2 hi)⟩,s.facts⟩
theorem acI:sU A (vs.set k v) (xss.set k xs)=(sU A vs xss).set k (A v xs):=by
 apply jv;intro j;simp only[sU,dK,o9,List.zip,List.getElem?_zipWith];by_cases e:k=j
 ·subst e;by_cases h1:k<vs.length
  ·by_cases h2:k<xss.length
   ·simp[h1,h2];omega
   ·simp[h1,h2];omega
  ·simp[h1];omega
 ·simp[e]
theorem SF{xs:β}(hlen:vs.length=xss.length)(hk:k<xss.length)(h1:ay (pt b (.cells (vs.set k v))) kl k1:=by exact iw)
 (h2:ay (A v xs) k1 k2:=by exact iw) (h3:ay (SB A vs xss k) k2 bG:=by exact iw) (h:R Q B w0 (nM A b (xss.set k xs)::bG) F):R Q B w0 kl F:=
 .perm (λw S hS=>by
  obtain⟨S1,S2,q1,q2,hp⟩:=hS.j4 (.cons h1 (.cons h2 (.cons h3 .nil)));obtain⟨T1,U1,u1,⟨T2,U2,u2,⟨T3,U3,u3,u4,e3⟩,e2⟩,e1⟩:=q1;have u4:U3=[]:=u4;subst u4 e3 e2 e1;have hl:((sU A vs xss).set k (A v xs))[k]? =some (A v xs):=by
   rw[o9,if_pos rfl,if_pos (by simp[sU];omega)]
  obtain⟨V,v1,v2⟩:=fB.Mi (ay.at hl) (S:=T2++T3) (w:=w) ⟨T2,T3,u2,by rw[RA];exact u3,rfl⟩;refine⟨(T1++V)++S2,⟨T1++V,S2,⟨vs.set k v,by simp[hlen],⟨T1,V,u1,by rw[acI];exact v1,rfl⟩⟩,q2,rfl⟩,hp.trans ?_⟩;exact tt) h
theorem acJ{m:Nat}{v0:Value}{x0:β}(h0:∀w,(A v0 x0).p w [])(hk:ay (pt b (.cells (List.replicate m v0))) kl kl':=by exact iw)(h:R Q B w0 (nM A b (List.replicate m x0)::kl') F):R Q B w0 kl F:=
 .perm (λw S hS=>by
  obtain⟨S',⟨T1,T2,u1,u2,e⟩,hp⟩:=hS.gK hk;refine⟨S',⟨T1,T2,⟨List.replicate m v0,vm,⟨T1,[],u1,?_,vm⟩⟩,u2,e⟩,hp⟩;have:∀m,fB w (sU A (List.replicate m v0) (List.replicate m x0)) []:=by
   intro m;induction m with
   |zero=>rfl
   |succ m ih=>exact⟨[],[],h0 w,ih,rfl⟩
  exact this m) h
theorem acK{E:Enc β}{c:Nat}(fv:Value->E.Y)(hn:E.n=1)(hpat:∀x v,E.pat x (fv v)=[v])(hA:∀v xs,uz (A v xs) (E.fs xs (fv v)))(hc:xss.length<=c:=by first|exact bV _|omega):uz (nM A b xss) [ai E (.slice (some ⟨b,0,some 0⟩) xss.length c) xss]:=by
 intro w w' S ⟨vs,hlen,T1,T2,⟨h1,h2⟩,u2,e⟩ hle hh hz f hf;subst e;rw[bK.1 hf];refine .inr ⟨b,0,0,c,vs,⟨rfl,hc,.inl rfl⟩,⟨hz b (by rw[h1];simp),.inl (by rw[hh];exact h2)⟩,λk xs hk=>?_⟩;have hlt:=(bC.1 hk).1;have hv:vs[k]? =some (vs[k]'(vj)):=bW vj;have hg:(sU A vs xss)[k]? =some (A (vs[k]'(vj)) xs):=SC A hv hk;obtain⟨T3,⟨T4,T5,u4,u5,e5⟩,u6⟩:=u2.gK (ay.at hg);subst e5;refine⟨fv (vs[k]'(vj)),λj u hj=>?_,λg hgm=>?_⟩
 ·rw[hpat]at hj;match j,hj with
  |0,hj=>
   cases hj;show vs[0+k*E.n+0]? =_;rw[hn];simp
 ·exact hA _ _ w w' T4 u4 hle hh (λi hi=>hz i (oF _ (u6.mem_iff.2 (jW _ hi)))) g hgm
end
def Ip{α:Type}(v:Value)(xs:List α):aK:=⟨λ_=>xs=[]->v=.slice none 0 0,λ_ h=>h⟩
def kY{α:Type}(E:Enc α)(v:Value)(xs:List α):OA:=⟨λw S=>(ap E v xs).p w S/\(xs=[]->v=.slice none 0 0),λa h hp=>⟨(ap E v xs).loc a h hp.1,hp.2⟩⟩
def sV{α:Type}(E:Enc α):Enc (List α):=⟨1,Value,λ_ v=>[v],λxs v=>[ai E v xs,Ip v xs],λ_ _=>rfl⟩
variable{α:Type}{v:Value}
theorem acL{E:Enc α}{xs:List α}:uz (kY E v xs) [ai E v xs,Ip v xs]:=by
 intro w w' S hp hle hh hz f hf;rcases dH.1 hf with rfl|hf
 ·exact fQ w w' S hp.1 hle hh hz _ (bK.2 rfl)
 ·rw[bK.1 hf];exact hp.2
theorem SG(E:Enc α)(v:Value)(xs:List α)(h:(xs=[]->v=.slice none 0 0)->R Q B w0 (ap E v xs::kl') F)(hk:ay (kY E v xs) kl kl':=by exact iw):R Q B w0 kl F:=λw s=>by
 obtain⟨S,⟨S1,S2,q1,q2,e⟩,h2,h3⟩:=(s.gK hk).own;exact h q1.2 w ⟨s.agree,s.le,s.gF,⟨S,⟨S1,S2,q1.1,q2,e⟩,h2,h3⟩,s.facts⟩
theorem SH(E:Enc α)(v:Value)(xs:List α)(hz:xs=[]->v=.slice none 0 0)(h:R Q B w0 (kY E v xs::kl') F)(hk:ay (ap E v xs) kl kl':=by exact iw):R Q B w0 kl F:=λw s=>
 h w ((s.gK hk).zW (A:=ap E v xs) λw S hp=>⟨hp,hz⟩)
variable{w:Wd}
theorem SI{E:Enc α}{xss:List (List α)}(h:(ai (sV E) v xss).p w):(ai (ak E) v xss).p w:=by
 rcases h with h|⟨i,o,f,c,cells,h1,h2,h3⟩
 ·exact .inl h
 ·refine .inr ⟨i,o,f,c,cells,h1,h2,λk x hk=>?_⟩;obtain⟨y,q1,q2⟩:=h3 k x hk;exact⟨y,q1,λf hf=>q2 f (by rw[bK.1 hf];exact cZ ..)⟩
theorem Iq{A A':OA}(e:A=A')(h:R Q B w0 (A'::kl') F)(hk:ay A kl kl':=by exact iw):R Q B w0 kl F:=by
 subst e;exact λw s=>h w (s.gK hk)
theorem St.SK{E:Enc α}{aF:List (α×E.Y)}(h0:0<aF.length)(hall:(wZ E aF).p w)(s:St B w0 (ar E v aF::kl') F w):St B w0 (ap E v (aF.map (·.1))::kl') F w:=by
 obtain⟨S,⟨S1,S2,q1,q2,e⟩,h2,h3⟩:=s.own;refine⟨s.agree,s.le,s.gF,⟨S,⟨S1,S2,?_,q2,e⟩,h2,h3⟩,s.facts⟩;rcases q1 with⟨h4,_⟩|⟨b,f,h4,h5,h6,h7⟩
 ·rw[h4]at h0;simp at h0
 ·refine .inr ⟨b,0,f,_,by rw[cz];exact h4,h5,h6,h7,by rw[Ew,cz,fC],λk x hk=>?_⟩;rw[dK]at hk;cases hp:aF[k]? with
  |none=>rw[hp]at hk;cases hk
  |some p=>
   rw[hp]at hk;cases hk;exact⟨p.2,λj u hj=>by rw[fC];exact Ac hp hj,λf hf=>hall p (aP hp) f hf⟩
theorem SL{E:Enc α}{aF:List (α×E.Y)}(h0:0<aF.length)(h:R Q B w0 (ap E v (aF.map (·.1))::kl') F)(hfs:∀w,(∀f∈F,f.p w)->(wZ E aF).p w)(hk:ay (ar E v aF) kl kl':=by exact iw):R Q B w0 kl F:=λw s=>
 h w (St.SK h0 (hfs w s.facts) (s.gK hk))
end Go.Ideal
namespace Go.Ideal
variable {P:Program}
def ajK{α:Type}(P:Program)(vals:α->List Value)(fe:α->List aK)(fn:Fn)(first cap:List Value)(F:List aK)(X:List α->Prop):Prop:=
 ∀(S:Type) (inv:S->List OA) (ok:List α->S->Prop) (step:S->α->S×Bool) (s0:S) (Eu:Fn) (y1 y2:List Value) (F':List aK),ok [] s0->
  (∀vs s x rest,ok vs s->X (vs++x::rest)->(step s x).2=true->ok (vs++[x]) (step s x).1)->
  (∀vs s x rest,ok vs s->X (vs++x::rest)->aU P Eu (y1++vals x) y2 (inv s) (fe x++F') (λ_:Unit=>.bool (step s x).2) (λ_=>inv (step s x).1) (λ_=>[]) (λ_=>True))->
  aU P fn (first++[.func Eu ⟨y1⟩ ⟨y2⟩]) cap (inv s0) (F++F') (λ_:List α=>.tuple ⟨[]⟩) (λxs=>inv (lX step s0 xs)) (λ_=>[]) X
theorem aU.facts{Y:Type}{fn:Fn}{args cap:List Value}{kl:List OA}{F F2:List aK}{val:Y->Value}{kl':Y->List OA}{fs:Y->List aK}{pr:Y->Prop}(h:aU P fn args cap kl F val kl' fs pr)(hF:∀f∈F,f∈F2):aU P fn args cap kl F2 val kl' fs pr:=
 λB w s=>h B w ⟨s.agree,s.le,s.gF,s.own,λf hf=>s.facts f (hF f hf)⟩
section
variable {B:List Nat} {w0:Wd} {kl kl' bG:List OA} {F:List aK} {K:KO} {n:Nat} {l:List (Nat×Value)} {D:List Deferred} {pm:Option FrameMode} {ro:Option Nat}
variable{S α Z:Type}{ps:List Tmp}{assign body:dB}{fn:Fn}{first captured:List Value}{F1:List aK}
theorem akZ{f:Operand}{vals:α->List Value}{fe:α->List aK}{X:List α->Prop}(step:S->α->S×Out)(inv:S->List OA)(ok:List α->S->Prop)(s0:S)(h0:ok [] s0)
 (hok:∀vs s x rest,ok vs s->X (vs++x::rest)->(step s x).2=.normal->ok (vs++[x]) (step s x).1) (hit:ajK P vals fe fn first captured F1 X)
 (hf:ev l f=.func fn ⟨first⟩ ⟨captured⟩) (hps:ps.all (λp=>Nat.blt p n)=true) (hlen:∀x,ps.length=(vals x).length) (hk:aI (inv s0) kl bG) (hF:Sub F1 F) (jH:∀s x,Ei (step s x).2)
 (l3:α->Z->List (Nat×Value)) (k3:α->Z->List OA)
 (ha:∀(s:S) (x:α) (lo:Nat) (o:dQ) B w0,R (λh=>EV P assign (act n ((ps.zip (vals x)).reverse++l) [] none (some lo)) h (Ib B w0 n (l3 x) lo o (λz=>k3 x z++inv s) (fe x++F))) B w0 (pt lo o::inv s) (fe x++F))
 (hb:∀(vs:List α) (s:S) (x:α) (rest:List α) (z:Z) (lo:Nat) (L:oG) B w0,ok vs s->X (vs++x::rest)->R (λh=>EV P body (act n (l3 x z) [] none (some lo)) h (Ej B w0 lo L (λ_:Unit=>(step s x).2) (λ_=>inv (step s x).1) (λ_=>[]) (λ_=>True))) B w0 (pt lo (.loop (yD L))::(k3 x z++inv s)) (fe x++F))
 (next:∀r xs,X xs->R (λh=>K (oL step s0 xs).2 (act n l ({target:=.collected r,args:= #[]}::D) pm none) h) B w0 (inv (oL step s0 xs).1++(pt r (.iY true)::bG)) F):
 R (λh=>EV P (.rangeFunc f ps assign body) (act n l D pm none) h K) B w0 kl F:=by
 refine abS (Y:=List α) (k1:=inv s0) (F1:=F1++F) (Mc:=λ_=>.tuple ⟨[]⟩) (out:=λxs=>(oL step s0 xs).2) (k1':=λxs=>inv (oL step s0 xs).1) (fs:=λ_=>[]) (pr:=X) hf ?_ hk (hF.app (Sub.refl' F [])) (λr y hy=>next r y hy);intro lo r;have:=hit (S×Out) (λso=>pt lo (.loop (ol ⟨.ready,none,iQ l,n,ps,assign,body,r⟩ so.2))::inv so.1) (λvs so=>so.2=.normal/\ok vs so.1) (λso x=>(step so.1 x,qp (step so.1 x).2)) (s0,.normal) (.yield lo) [] [] F ⟨rfl,h0⟩
  (λvs so x rest ho hx h=>by
    exact eA)
  (λvs so x rest ho hx=>by
    exact cS)
 have e:(λxs:List α=>pt lo (.loop (ol ⟨.ready,none,iQ l,n,ps,assign,body,r⟩ (lX (λ(so:S×Out) x=>(step so.1 x,qp (step so.1 x).2)) (s0,.normal) xs).2))::inv (lX (λ(so:S×Out) x=>(step so.1 x,qp (step so.1 x).2)) (s0,.normal) xs).1)=λxs=>pt lo (.loop (ol ⟨.ready,none,iQ l,n,ps,assign,body,r⟩ (oL step s0 xs).2))::inv (oL step s0 xs).1:=by
  funext xs
  rw[Rv]
 have h2:aU P fn (first++[.func (.yield lo) ⟨[]⟩ ⟨[]⟩]) captured (pt lo (.loop ⟨.ready,none,iQ l,n,ps,assign,body,r⟩)::inv s0) (F1++F) (λ_:List α=>.tuple ⟨[]⟩) (λxs=>pt lo (.loop (ol ⟨.ready,none,iQ l,n,ps,assign,body,r⟩ (lX (λ(so:S×Out) x=>(step so.1 x,qp (step so.1 x).2)) (s0,.normal) xs).2))::inv (lX (λ(so:S×Out) x=>(step so.1 x,qp (step so.1 x).2)) (s0,.normal) xs).1) (λ_=>[]) X:=this;rw[e]at h2;exact h2
theorem ak0{f:Operand}{vals:α->List Value}{fe:α->List aK}{X:List α->Prop}(step:S->α->S×Out)(inv:S->List OA)(ok:List α->S->Prop)(s0:S)(l3:α->Z->List (Nat×Value))(k3:α->Z->List OA)(h0:ok [] s0)
 (hok:∀vs s x rest,ok vs s->X (vs++x::rest)->(step s x).2=.normal->ok (vs++[x]) (step s x).1) (hit:ajK P vals fe fn first captured F1 X)
 (ha:∀(s:S) (x:α) (lo:Nat) (o:dQ) B w0,R (λh=>EV P assign (act n ((ps.zip (vals x)).reverse++l) [] none (some lo)) h (Ib B w0 n (l3 x) lo o (λz=>k3 x z++inv s) (fe x++F))) B w0 (pt lo o::inv s) (fe x++F))
 (hb:∀(vs:List α) (s:S) (x:α) (rest:List α) (z:Z) (lo:Nat) (L:oG) B w0,ok vs s->X (vs++x::rest)->R (λh=>EV P body (act n (l3 x z) [] none (some lo)) h (Ej B w0 lo L (λ_:Unit=>(step s x).2) (λ_=>inv (step s x).1) (λ_=>[]) (λ_=>True))) B w0 (pt lo (.loop (yD L))::(k3 x z++inv s)) (fe x++F))
 (next:∀r xs,X xs->R (λh=>K (oL step s0 xs).2 (act n l ({target:=.collected r,args:= #[]}::D) pm none) h) B w0 (inv (oL step s0 xs).1++(pt r (.iY true)::bG)) F)
 (jH:∀s x,Ei (step s x).2)
 (hf:ev l f=.func fn ⟨first⟩ ⟨captured⟩:=by rfl) (hps:ps.all (λp=>Nat.blt p n)=true:=by rfl) (hlen:∀x,ps.length=(vals x).length:=by intro _;rfl)
 (hk:aI (inv s0) kl bG:=by exact oK) (hF:Sub F1 F:=by exact oJ):
 R (λh=>EV P (.rangeFunc f ps assign body) (act n l D pm none) h K) B w0 kl F:=
 akZ step inv ok s0 h0 hok hit hf hps hlen hk hF jH l3 k3 ha hb next
end
section
variable {B:List Nat} {w0:Wd} {kl:List OA} {F:List aK}
end
end Go.Ideal
namespace Go.Ideal
variable {P:Program} {B:List Nat} {w0:Wd} {kl kl' bG:List OA} {F:List aK} {K:KO} {ds:List Tmp} {rest:List bT} {n:Nat} {l:List (Nat×Value)} {D:List Deferred} {pm:Option FrameMode} {ro:Option Nat} {d:Nat} {g:Option (Tmp×Bool)}
theorem akk{cs1 cs2 xs:List Value}(h:xs.length<=cs2.length):jK (cs1++cs2) cs1.length xs=some (cs1++(xs++cs2.drop xs.length)):=by
 obtain⟨r,hr⟩:=Ms (cs1++cs2) cs1.length xs (by rw[iE];omega);obtain⟨h1,h2,h3⟩:=Ki hr;rw[hr];congr 1;apply jv;intro j;rw[h3 j];by_cases c1:j<cs1.length
 ·rw[if_neg vj,qL c1,qL c1]
 ·by_cases c2:j<cs1.length+xs.length
  ·rw[if_pos ⟨vj,c2⟩,qa vj,qL vj]
  ·rw[if_neg vj,qa vj,qa vj,qa vj,qK];congr 1;omega
end Go.Ideal
namespace Go.Ideal
variable {P:Program}
