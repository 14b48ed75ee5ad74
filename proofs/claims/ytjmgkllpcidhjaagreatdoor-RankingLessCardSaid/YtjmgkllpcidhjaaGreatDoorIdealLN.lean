/-
  The ideal machine, 57: loops over functions, seen from all states of a kind; functions that leave collected ends behind.
-/
import Derived.Test.YtjmgkllpcidhjaaGreatDoorIdealKN
set_option linter.all false
namespace Go.Ideal
variable {P:Program}
def yf(P:Program)(cf:eX)(K:KR):KO:=λo a h=>match sM o with
 |none=>False
 |some m=>LEAVE P cf a.tmps a.defers m h λr h''=>K r a.pm h''
section
variable {B:List Nat} {w0:Wd} {kl kl' bK:List OA} {F:List aK} {K:KO} {n:Nat} {l:List (Nat×Value)} {D:List Deferred} {pm:Option FrameMode} {ro:Option Nat}
inductive oG:List OA->List Deferred->List OA->Prop
 |nil {kl:List OA}:oG kl [] kl
 |cons {kl kl' fF:List OA} {r:Nat} {args:Array Value} {D:List Deferred} (h:ai (pt r (.fV true)) kl kl') (t:oG kl' D fF):oG kl ({target:=.collected r,args}::D) fF
theorem oG.leave{cf:eX}{ts:T Value}{Kr:gU->IH->Prop}:∀{D:List Deferred} {kl fF:List OA},oG kl D fF->(∀w',St B w0 fF F w'->∃v,pO cf.results ts w'.h=some v/\Kr (.ok v) w'.h)->∀w,St B w0 kl F w->LEAVE P cf ts D .returning w.h Kr
 |_,_,_,.nil,hk,w,s=>by
  obtain⟨v,h1,h2⟩:=hk w s;exact .ret v h1 h2
 |_,_,_,.cons (r:=r) h t,hk,w,s=>by
  have s1:=s.fe h;refine .coll (by intro e;cases e) r s1.get.1 ?_;exact oG.leave t hk _ (s1.write (o':=.fV false)).tail
def wG(L:mP):mP:={L with state:=.busy}
def mg(L:mP)(o:Out):mP:=match o with
 | .normal=>{L with state:=.ready,pending:=none}
 |o=>{L with state:=.done,pending:=some o}
def oH(o:Out):Bool:=match o with
 | .normal=>true
 |_=>false
def CY(o:Out):Prop:=match o with
 | .panic _=>False
 |_=>True
def CZ{Y:Type}(B:List Nat)(w0:Wd)(lo:Nat)(L:mP)(out:Y->Out)(k1:Y->List OA)(fs:Y->List aK)(pr:Y->Prop):KO:=λo a h=>
 a.defers=[]/\∃(w:Wd) (y:Y),w.h=h/\o=out y/\CY o/\St B w0 (pt lo (.loop (wG L))::k1 y) (fs y) w/\pr y
theorem aa1{Y:Type}{lo:Nat}{L:mP}{out:Y->Out}{k1:Y->List OA}{fs:Y->List aK}{pr:Y->Prop}{o:Out}{fF:List OA}(y:Y)(ho:o=out y)(hn:CY o)(hp:pr y)(hk:aM (pt lo (.loop (wG L))::k1 y) kl fF)(hF:Sub (fs y) F):
 R (λh=>CZ B w0 lo L out k1 fs pr o (act n l [] none ro) h) B w0 kl F:=λw s=>⟨rfl,w,y,rfl,ho,hn,((s.jF hk).drop).sub hF,hp⟩
theorem Qn(n:Nat):∀(ps:List Tmp) (args:List Value) (l:List (Nat×Value)),ps.all (λp=>Nat.blt p n)=true->ps.length=args.length->∃l2,qZ n ps args (gp l)=gp l2/\l2=(ps.zip args).reverse++l
 |[],[],l,_,_=>⟨l,rfl,rfl⟩
 |p::ps,v::args,l,h,e=>by
  simp only[xm,eG]at h;obtain⟨l2,h1,h2⟩:=Qn n ps args ((p,v)::l) h.2 (by simpa using e);refine⟨l2,?_,by rw[h2];simp⟩;rw[<- h1];show qZ n ps args (cond (Nat.blt p n) ((gp l).set p (some v)) (gp l))=_;rw[h.1];rfl
theorem aa2{Y:Type}{f:Operand}{ps:List Tmp}{assign body:cB}{fn:Fn}{first captured:List Value}{k1:List OA}{F1:List aK}{KT:Y->Value}{out:Y->Out}{k1':Y->List OA}{fs:Y->List aK}{pr:Y->Prop}
 (hf:ev l f=.func fn ⟨first⟩ ⟨captured⟩)
 (it:∀lo r,bD P fn (first++[.func (.yield lo) #[] #[]]) captured (pt lo (.loop ⟨.ready,none,gp l,n,ps,assign,body,r⟩)::k1) F1 KT (λy=>pt lo (.loop (mg ⟨.ready,none,gp l,n,ps,assign,body,r⟩ (out y)))::k1' y) fs pr)
 (hk:aM k1 kl bK) (hF:Sub F1 F)
 (next:∀r y,pr y->R (λh=>K (out y) (act n l ({target:=.collected r,args:= #[]}::D) pm none) h) B w0 (k1' y++(pt r (.fV true)::bK)) (fs y++F)):
 R (λh=>EV P (.rangeFunc f ps assign body) (act n l D pm none) h K) B w0 kl F:=by
 intro w s;let L:Nat->mP:=λr=>⟨.ready,none,gp l,n,ps,assign,body,r⟩
 let r:=w.h.next
 let w1:=w.new (.fV true)
 have s1:St B w0 (pt r (.fV true)::kl) F w1:=s.new _;let lo:=w1.h.next
 let w2:=w1.new (.loop (L r))
 have s2:St B w0 (pt lo (.loop (L r))::pt r (.fV true)::kl) F w2:=s1.new _;have s3:St B w0 ((pt lo (.loop (L r))::k1)++(pt r (.fV true)::bK)) F w2:=s2.jF (k:=pt lo (.loop (L r))::k1) (kl':=pt r (.fV true)::bK) (.cons .here (by
  have:∀{k kl bK:List OA} (A:OA),aM k kl bK->aM k (A::kl) (A::bK):=by
   intro k kl bK A h;induction h with
   |nil=>exact .nil
   |cons h1 _ ih=>exact .cons (.there h1) ih
  exact this _ hk))
 obtain⟨S,h1,h2,h3⟩:=s3.own;obtain⟨S1,S2,q1,q2,hp⟩:=h1.jF (k:=pt lo (.loop (L r))::k1) (kl':=pt r (.fV true)::bK) (by
  have:∀(k kr:List OA),aM k (k++kr) kr:=by
   intro k kr;induction k with
   |nil=>exact .nil
   |cons A k ih=>exact .cons .here ih
  exact this _ _)
 have hsub:∀i∈S1,i∈S:=λi hi=>hp.mem_iff.2 (mK _ hi);have st1:St S1 w2 (pt lo (.loop (L r))::k1) F1 w2:=⟨⟨aH _,λ_ _ _=>rfl,λ_ _=>rfl⟩,Wd.Le.refl w2,λi _ hz=>.inl hz,⟨S1,q1,(qV.1 (hp.nodup h2)).1,λi hi=>⟨.inr hi,(h3 i (hsub i hi)).2⟩⟩,λf hf=>s2.facts f (hF.mem f hf)⟩
 have hc:=it lo r S1 w2 st1;refine .rangeFunc fn first captured (by rw[jT];exact hf) (act n l ({target:=.collected r,args:= #[]}::D) pm none) w1.h r (.inl ⟨rfl,rfl,rfl,rfl⟩) (Left S1 w2 KT (λy=>pt lo (.loop (mg (L r) (out y)))::k1' y) fs pr) ?_ ?_ ?_
 ·rw[gV];exact hc
 ·rintro v pm' h' ⟨rfl,w',y,rfl,c,hv,hpr⟩;have sc:St B w0 ((pt lo (.loop (mg (L r) (out y)))::k1' y)++(pt r (.fV true)::bK)) (fs y++F) w':=s3.call (k1:=pt lo (.loop (L r))::k1) (F1:=F1) ⟨S,hp,h2,h3⟩ q2 c;have hg:=(show St B w0 (pt lo (.loop (mg (L r) (out y)))::(k1' y++(pt r (.fV true)::bK))) (fs y++F) w' from sc).get;refine⟨mg (L r) (out y),hg.1,?_,?_⟩
  ·cases out y<;>simp[mg]
  ·have e:(mg (L r) (out y)).pending.getD .normal=out y:=by cases out y<;>rfl
   rw[e];exact next r y hpr _ (St.write (o':=.loop {mg (L r) (out y)with state:=.exhausted}) sc).tail
 ·rintro ch pm' h' ⟨rfl,w',y,rfl,c,hv,hpr⟩;cases hv
end
end Go.Ideal
namespace Go.Ideal
variable {P:Program}
def oI{S α:Type}(step:S->α->S×Bool):S->List α->S
 |s,[]=>s
 |s,x::xs=>match step s x with
  |(s',true)=>oI step s' xs
  |(s',false)=>s'
def oJ{S α:Type}(step:S->α->S×Out):S->List α->S×Out
 |s,[]=>(s,.normal)
 |s,x::xs=>match step s x with
  |(s',.normal)=>oJ step s' xs
  |(s',o)=>(s',o)
theorem Sub.refl'{α:Type}:∀(l k:List α),Sub l (k++l)
 |[],_=>.nil
 |a::l,k=>.cons (nW _ (bz ..)) (by have:=Sub.refl' l (k++[a]);rwa [ik]at this)
theorem Sub.app{α:Type}:∀{k1 k2 l:List α},Sub k1 l->Sub k2 l->Sub (k1++k2) l
 |_,_,_,.nil,h=>h
 |_,_,_,.cons h h1,h2=>.cons h (h1.app h2)
section
variable {B:List Nat} {w0:Wd} {kl kl' bK:List OA} {F:List aK} {K:KO} {n:Nat} {l:List (Nat×Value)} {D:List Deferred} {pm:Option FrameMode} {ro:Option Nat}
theorem Qo{S α:Type}{step:S->α->S×Out}:∀(xs:List α) (s:S),oI (λ(so:S×Out) x=>(step so.1 x,oH (step so.1 x).2)) (s,Out.normal) xs=oJ step s xs
 |[],s=>rfl
 |x::xs,s=>by
  have ih:=Qo (step:=step) xs;simp only[oI,oJ];cases h:step s x with
  |mk s' o=>
   cases o with
   |normal=>simp only[oH];exact ih s'
   |_=>simp only[oH]
end
end Go.Ideal
namespace Go.Ideal
variable {P:Program} {ρ:Operand->Value}
theorem wrapN{m:Nat}(h:m<9223372036854775808):IntKind.i64.wrap (m:Int)=m:=wrap64 (by omega) (by omega)
theorem FP{x y:Operand}{t:TypeId}{a b:Nat}(hx:ρ x=.int .i64 (a:Int))(hy:ρ y=.int .i64 (b:Int))(hb:b<64):Pu P ρ (.bin .shr t x y) (.int .i64 ((a>>>b:Nat):Int)):=λh=>by
 simp only[ak.run,hx,hy];rw[Aa (op:=.shr) (v:=.int .i64 ((a>>>b:Nat):Int)) rfl (by
  show dF P (Op.shift .shr .i64 a .i64 b)=_;unfold Op.shift;rw[if_neg (by omega)];show some (Value.int .i64 ((a:Int).fdiv (2^(min (b:Int).toNat 64))))=_;rw[show min (b:Int).toNat 64=b by simp;omega,Nat.shiftRight_eq_div_pow];congr 2;rw[show((2:Int)^b)=((2^b:Nat):Int)by simp,Int.fdiv_eq_ediv_of_nonneg _ (Int.natCast_nonneg _)];simp) rfl]
theorem aa3{x y:Operand}{t:TypeId}{a b:Nat}(hx:ρ x=.int .i64 (a:Int))(hy:ρ y=.int .i64 (b:Int))(hb:b<64)(hr:a<<<b<9223372036854775808):Pu P ρ (.bin .shl t x y) (.int .i64 ((a<<<b:Nat):Int)):=λh=>by
 simp only[ak.run,hx,hy];rw[Aa (op:=.shl) (v:=.int .i64 ((a<<<b:Nat):Int)) rfl (by
  show dF P (Op.shift .shl .i64 a .i64 b)=_;unfold Op.shift;rw[if_neg (by omega)];show some (Value.int .i64 (IntKind.i64.wrap ((a:Int)*2^(min (b:Int).toNat 64))))=_;rw[show min (b:Int).toNat 64=b by simp;omega];rw[show((a:Int)*2^b)=((a<<<b:Nat):Int)by rw[Nat.shiftLeft_eq];simp,wrapN hr]) rfl]
theorem Qp{a:Nat}(h:a<9223372036854775808):(BitVec.ofInt 64 (a:Int)).toNat=a:=by
 simp[BitVec.toNat_ofInt];omega
theorem FQ{x y:Operand}{t:TypeId}{a b:Nat}(hx:ρ x=.int .i64 (a:Int))(hy:ρ y=.int .i64 (b:Int))(ha:a<9223372036854775808)(hb:b<9223372036854775808):Pu P ρ (.bin .and t x y) (.int .i64 ((a&&&b:Nat):Int)):=λh=>by
 simp only[ak.run,hx,hy];rw[Aa (op:=.and) (v:=.int .i64 ((a&&&b:Nat):Int)) rfl (by
  show dF P (Op.intBits .and .i64 a b)=_;show some (Value.int .i64 (IntKind.i64.wrap ((BitVec.ofInt 64 (a:Int)&&&BitVec.ofInt 64 (b:Int)).toNat:Int)))=_;rw[BitVec.toNat_and,Qp ha,Qp hb,wrapN (Ey Nat.and_le_left ha)]) rfl]
end Go.Ideal
namespace Go.Ideal
variable {P:Program}
def KU{X:Type}(f:X->List OA):OA:=⟨λw S=>∃x,gN w (f x) S,λa h ⟨x,hx⟩=>⟨x,gN.loc a h hx⟩⟩
theorem nG{ρ:Operand->Value}{x y:Operand}{a b:Int}(hx:ρ x=.int .i64 a)(hy:ρ y=.int .i64 b):Pu P ρ (.vQ true [x,y]) (.int .i64 (max a b)):=λh=>by
 have e:jB ρ [x,y]=[.int .i64 a,.int .i64 b]:=by rw[q9];simp[hx,hy]
 simp only[ak.run,e,sJ,cond];by_cases hb:b<=a
 ·rw[oq,eH hb,Int.max_eq_left hb]
 ·have:leZ b a=false:=by rw[oq,gz hb]
  rw[this,Int.max_eq_right (by omega)]
theorem rR{ρ:Operand->Value}{x y:Operand}{a b:Int}(hx:ρ x=.int .i64 a)(hy:ρ y=.int .i64 b):Pu P ρ (.vQ false [x,y]) (.int .i64 (min a b)):=λh=>by
 have e:jB ρ [x,y]=[.int .i64 a,.int .i64 b]:=by rw[q9];simp[hx,hy]
 simp only[ak.run,e,sJ,cond];by_cases hb:a<=b
 ·rw[oq,eH hb,Int.min_eq_left hb]
 ·have:leZ a b=false:=by rw[oq,gz hb]
  rw[this,Int.min_eq_right (by omega)]
section
variable {B:List Nat} {w0:Wd} {kl kl' bK:List OA} {F:List aK} {K:KO} {n:Nat} {l:List (Nat×Value)} {D:List Deferred} {pm:Option FrameMode} {ro:Option Nat}
theorem Qq{X:Type}{f:X->List OA}{fF:X->List OA}{Q:IH->Prop}(hk:ai (KU f) kl kl':=by exact fM)(ha:∀x,bZ (f x) kl' (fF x):=by intro x;repeat (first|exact bZ.nil|apply bZ.cons|exact bZ.self|exact bZ.app))(h:∀x,R Q B w0 (fF x) F):R Q B w0 kl F:=λw s=>by
 obtain⟨S,⟨S1,S2,⟨x,q1⟩,q2,e⟩,h2,h3⟩:=(s.fe hk).own;refine h x w ?_;rw[<- (ha x).eq];exact⟨s.agree,s.le,s.eO,⟨S,by rw[e];exact q1.app q2,h2,h3⟩,s.facts⟩
theorem Qr{X:Type}(f:X->List OA)(x:X){Q:IH->Prop}(hk:aM (f x) kl bK:=by exact qJ)(h:R Q B w0 (KU f::bK) F):R Q B w0 kl F:=λw s=>by
 obtain⟨S,h1,h2,h3⟩:=s.own;obtain⟨S1,S2,q1,q2,hp⟩:=h1.jF hk;exact h w ⟨s.agree,s.le,s.eO,⟨S1++S2,⟨S1,S2,⟨x,q1⟩,q2,rfl⟩,hp.nodup h2,λi hi=>h3 i (hp.mem_iff.2 hi)⟩,s.facts⟩
theorem cK{Q:IH->Prop}(g:aK)(hg:∀w:Wd,(∀f∈F,f.p w)->g.p w)(h:R Q B w0 kl (g::F)):R Q B w0 kl F:=λw s=>
 h w ⟨s.agree,s.le,s.eO,s.own,λf hf=>by
  rcases aU.1 hf with rfl|hf
  ·exact hg w s.facts
  ·exact s.facts f hf⟩
theorem aa4{Y:Type}{lo:Nat}{L:mP}{out:Y->Out}{k1:Y->List OA}{fs:Y->List aK}{pr:Y->Prop}{o:Out}{fF:List OA}(y:Y)(ho:o=out y)(hn:CY o)(hp:pr y)
 (hk:aM (pt lo (.loop (wG L))::k1 y) kl fF:=by exact qJ) (hF:Sub (fs y) F:=by exact pY):
 R (λh=>CZ B w0 lo L out k1 fs pr o (act n l [] none ro) h) B w0 kl F:=aa1 y ho hn hp hk hF
theorem nH{α:Type}(E:Enc α){ds:List Tmp}{rest:List aY}{d:Nat}{g:Option (Tmp×Bool)}{e:TypeId}{size bytes b':Nat}{s x:Operand}{v:Value}{xs:List α}(a:α)(y:E.Y){cs:List Value}{k1 k2:List OA}
 (hm:(xs.length+1)*bytes<=1073741824/\(xs.length+1)*size<=1073741824/\xs.length+1<=1073741824)
 (next:∀ad,R (λh=>aB P ds rest (act n ((d,.slice ad (xs.length+1) (xs.length+1))::l) D pm ro) h K) B w0 (ap E (.slice ad (xs.length+1) (xs.length+1)) (xs++[a])::k2) F)
 (hn:Nat.blt d n=true:=by rfl) (hg:bH l g=true:=by rfl)
 (hs:ev l s=v:=by conv=>lhs;whnf) (hx:ev l x=.slice (some ⟨b',0,some 0⟩) 1 1:=by rfl) (hk:ai (ap E v xs) kl k1:=by exact fM) (hc:ai (pt b' (.cells cs)) k1 k2:=by exact fM) (hp:cs=E.pat a y:=by rfl) (hF:Sub (E.fs a y) F:=by exact pY) (hz:E.n=size:=by rfl):
 R (λh=>aB P ds (⟨⟨some d,g,.append e size bytes s x⟩,[]⟩::rest) (act n l D pm ro) h K) B w0 kl F:=
 (aaH hn hg hs hx hk hc hp hF hz hm).h λv' w st=>by
   obtain⟨S,⟨S1,S2,q,_⟩,_⟩:=st.own;obtain⟨ad,e⟩:=Qa q;rw[dW,qm]at e;subst e;exact next ad w st
section
variable {ds:List Tmp} {rest:List aY} {d:Nat} {g:Option (Tmp×Bool)}
theorem FT{e:TypeId}{size bytes:Nat}{zero:List Value}{x y:Operand}(m:Nat)(hm:m*bytes<=1073741824/\m*size<=1073741824/\m<=1073741824)
 (next:∀b,R (λh=>aB P ds rest (act n ((d,.slice (some ⟨b,0,some 0⟩) m m)::l) D pm ro) h K) B w0 (pt b (.cells (zeros zero m))::kl) F)
 (hx:ev l x=.int .i64 (m:Int):=by rfl) (hy:ev l y=.int .i64 (m:Int):=by rfl) (hn:Nat.blt d n=true:=by rfl) (hg:bH l g=true:=by rfl):
 R (λh=>aB P ds (⟨⟨some d,g,.vP e size bytes zero x y⟩,[]⟩::rest) (act n l D pm ro) h K) B w0 kl F:=(aaw hn hg hx hy hm).h next
theorem p9{x y:Operand}{b o:Nat}{cs cs':List Value}{v:Value}(hs:cs.set o v=cs')(ho:o<cs.length)
 (next:R (λh=>aB P ds rest (act n l D pm ro) h K) B w0 (pt b (.cells cs')::kl') F)
 (hx:ev l x=.pointer (some ⟨b,o,none⟩):=by rfl) (hy:ev l y=v:=by rfl) (hv:cellsOf v=some [v]:=by rfl) (hk:ai (pt b (.cells cs)) kl kl':=by exact fM) (hg:bH l g=true:=by rfl):
 R (λh=>aB P ds (⟨⟨none,g,.store 1 x y⟩,[]⟩::rest) (act n l D pm ro) h K) B w0 kl F:=by subst hs;exact(aaB hg hx hy hv hk ho).h next
theorem jU{x:Operand}{b o:Nat}{cs:List Value}(v:Value)(hv:cs[o]? =some v)
 (next:R (λh=>aB P ds rest (act n ((d,v)::l) D pm ro) h K) B w0 kl F)
 (hx:ev l x=.pointer (some ⟨b,o,none⟩):=by rfl) (hk:ai (pt b (.cells cs)) kl kl':=by exact fM) (hn:Nat.blt d n=true:=by rfl) (hg:bH l g=true:=by rfl):
 R (λh=>aB P ds (⟨⟨some d,g,.aP x⟩,[]⟩::rest) (act n l D pm ro) h K) B w0 kl F:=(aaC hn hg hx hk hv).h next
theorem aa5{x i:Operand}{v:Value}{xs:List Int}(k:Nat)(z:Int){kk:IntKind}{d2:Nat}(hz:xs[k]? =some z)
 (next:∀b o,R (λh=>aB P ds rest (act n ((d2,.int .i64 z)::(d,.pointer (some ⟨b,o,none⟩))::l) D pm ro) h K) B w0 kl F)
 (hx:ev l x=v:=by conv=>lhs;whnf) (hi:ev l i=.int kk (k:Int):=by rfl) (hk:ai (ap ae v xs) kl kl':=by exact fM) (hn:Nat.blt d n=true:=by rfl) (hn2:Nat.blt d2 n=true:=by rfl):
 R (λh=>aB P ds (⟨⟨some d,none,.fB 1 x i⟩,[]⟩::⟨⟨some d2,none,.aP (.tmp d)⟩,[]⟩::rest) (act n l D pm ro) h K) B w0 kl F:=(aaI hn rfl hn2 (λ_=>rfl) hx hi hk hz).h next
end
end
