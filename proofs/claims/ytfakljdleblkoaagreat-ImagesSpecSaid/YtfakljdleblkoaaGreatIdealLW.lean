/-
  Part IdealLW.
-/
import Derived.Test.YtfakljdleblkoaaGreatIdealKW
set_option linter.all false
namespace Go.Ideal
variable {P:Program}
def ry(P:Program)(cf:gU)(K:KR):KO:=λo a h=>match tY o with
 |none=>False
 |some m=>LEAVE P cf a.tmps a.defers m h λr h''=>K r a.pm h''
theorem abP{Y:Type}{f:FuncId}{args cap:List Value}{kl:List OA}{F:List aK}{val:Y->Value}{kl':Y->List OA}{fs:Y->List aK}{pr:Y->Prop}{c:dB}{m:Nat}{l0:List (Nat×Value)}(cf:gU)(hF:(pu P qi pz).F f=some cf)
 (hb:∀B w0,R (λh=>EV P c (act m l0 [] none none) h (ry P cf (Left B w0 val kl' fs pr))) B w0 kl F)
 (h1:cf.body=c:=by conv=>lhs;(reduce;(try simp only[Int.reduceOfNat,Int.reduceNegSucc]))) (h2:qR cf.ntmps (iF (args++cap))=m:=by conv=>lhs;whnf) (h3:pK 0 (args++cap) []=l0:=by dsimp only[pK,Nat.reduceAdd,List.append_nil,List.cons_append,List.nil_append]):aU P (.func f) args cap kl F val kl' fs pr:=by
 intro B w s;obtain⟨fn,e1,e2⟩:=(BD P qi pz (λf q h v h' hm=>by cases hm)).fn f cf hF;refine QX cf fn e1 e2 ?_;rw[L9,h1,h2,h3];exact hb B w w s
section
variable {B:List Nat} {w0:Wd} {kl kl' bG:List OA} {F:List aK} {K:KO} {n:Nat} {l:List (Nat×Value)} {D:List Deferred} {pm:Option FrameMode} {ro:Option Nat}
inductive jQ:List OA->List Deferred->List OA->Prop
 |nil {kl:List OA}:jQ kl [] kl
 |cons {kl kl' eU:List OA} {r:Nat} {args:Array Value} {D:List Deferred} (h:ay (pt r (.iY true)) kl kl') (t:jQ kl' D eU):jQ kl ({target:=.collected r,args}::D) eU
theorem jQ.leave{cf:gU}{ts:T Value}{Kr:iP->IH->Prop}:∀{D:List Deferred} {kl eU:List OA},jQ kl D eU->(∀w',St B w0 eU F w'->∃v,qh cf.results ts w'.h=some v/\Kr (.ok v) w'.h)->∀w,St B w0 kl F w->LEAVE P cf ts D .returning w.h Kr
 |_,_,_,.nil,hk,w,s=>by
  obtain⟨v,h1,h2⟩:=hk w s;exact .ret v h1 h2
 |_,_,_,.cons (r:=r) h t,hk,w,s=>by
  have s1:=s.gK h;refine .coll AF r s1.get.1 ?_;exact jQ.leave t hk _ (s1.write (o':=.iY false)).tail
variable{Y:Type}{o:Out}{eU:List OA}
theorem abQ{cf:gU}{vs:List Value}{val:Y->Value}{k1:Y->List OA}{fs:Y->List aK}{pr:Y->Prop}(y:Y)(hD:jQ kl D eU)(hr:RS l eU cf.results vs)(hv:uA vs=val y)(hp:pr y)(hk:aI (k1 y) eU bG)(hF:Sub (fs y) F)
 (ho:o=.normal\/o=.ret):R (λh=>ry P cf (Left B w0 val k1 fs pr) o (act n l D none ro) h) B w0 kl F:=by
 intro w s;have key:LEAVE P cf (iQ l) D .returning w.h λr h''=>Left B w0 val k1 fs pr r none h'':=by
  refine jQ.leave hD (λw' s'=>⟨val y,?_,rfl,w',y,rfl,((s'.j4 hk).drop).sub hF,rfl,hp⟩) w s;unfold qh;rw[hr.all s',<- hv];exact sX
 rcases ho with rfl|rfl
 ·exact key
 ·exact key
def yD(L:oG):oG:={L with state:=.busy}
def ol(L:oG)(o:Out):oG:=match o with
 | .normal=>{L with state:=.ready,pending:=none}
 |o=>{L with state:=.done,pending:=some o}
def qp(o:Out):Bool:=match o with
 | .normal=>true
 |_=>false
def Ei(o:Out):Prop:=match o with
 | .panic _=>False
 |_=>True
def Ej{Y:Type}(B:List Nat)(w0:Wd)(lo:Nat)(L:oG)(out:Y->Out)(k1:Y->List OA)(fs:Y->List aK)(pr:Y->Prop):KO:=λo a h=>
 a.defers=[]/\∃(w:Wd) (y:Y),w.h=h/\o=out y/\Ei o/\St B w0 (pt lo (.loop (yD L))::k1 y) (fs y) w/\pr y
theorem abR{lo:Nat}{L:oG}{out:Y->Out}{k1:Y->List OA}{fs:Y->List aK}{pr:Y->Prop}(y:Y)(ho:o=out y)(hn:Ei o)(hp:pr y)(hk:aI (pt lo (.loop (yD L))::k1 y) kl eU)(hF:Sub (fs y) F):
 R (λh=>Ej B w0 lo L out k1 fs pr o (act n l [] none ro) h) B w0 kl F:=λw s=>⟨rfl,w,y,rfl,ho,hn,((s.j4 hk).drop).sub hF,hp⟩
theorem Ru(n:Nat):∀(ps:List Tmp) (args:List Value) (l:List (Nat×Value)),ps.all (λp=>Nat.blt p n)=true->ps.length=args.length->∃l2,tZ n ps args (iQ l)=iQ l2/\l2=(ps.zip args).reverse++l
 |[],[],l,_,_=>⟨l,rfl,rfl⟩
 |p::ps,v::args,l,h,e=>by
  simp only[List.all_cons,eB]at h;obtain⟨l2,h1,h2⟩:=Ru n ps args ((p,v)::l) h.2 xF;refine⟨l2,?_,by rw[h2];simp⟩;rw[<- h1];show tZ n ps args (cond (Nat.blt p n) ((iQ l).set p (some v)) (iQ l))=_;rw[h.1];rfl
theorem abS{f:Operand}{ps:List Tmp}{assign body:dB}{fn:Fn}{first captured:List Value}{k1:List OA}{F1:List aK}{Mc:Y->Value}{out:Y->Out}{k1':Y->List OA}{fs:Y->List aK}{pr:Y->Prop}
 (hf:ev l f=.func fn ⟨first⟩ ⟨captured⟩)
 (it:∀lo r,aU P fn (first++[.func (.yield lo) #[] #[]]) captured (pt lo (.loop ⟨.ready,none,iQ l,n,ps,assign,body,r⟩)::k1) F1 Mc (λy=>pt lo (.loop (ol ⟨.ready,none,iQ l,n,ps,assign,body,r⟩ (out y)))::k1' y) fs pr)
 (hk:aI k1 kl bG) (hF:Sub F1 F)
 (next:∀r y,pr y->R (λh=>K (out y) (act n l ({target:=.collected r,args:= #[]}::D) pm none) h) B w0 (k1' y++(pt r (.iY true)::bG)) (fs y++F)):
 R (λh=>EV P (.rangeFunc f ps assign body) (act n l D pm none) h K) B w0 kl F:=by
 intro w s;let L:Nat->oG:=λr=>⟨.ready,none,iQ l,n,ps,assign,body,r⟩
 let r:=w.h.next
 let w1:=w.new (.iY true)
 have s1:St B w0 (pt r (.iY true)::kl) F w1:=s.new _;let lo:=w1.h.next
 let w2:=w1.new (.loop (L r))
 have s2:St B w0 (pt lo (.loop (L r))::pt r (.iY true)::kl) F w2:=s1.new _;have s3:St B w0 ((pt lo (.loop (L r))::k1)++(pt r (.iY true)::bG)) F w2:=s2.j4 (k:=pt lo (.loop (L r))::k1) (kl':=pt r (.iY true)::bG) (.cons .here (by
  have:∀{k kl bG:List OA} (A:OA),aI k kl bG->aI k (A::kl) (A::bG):=by
   intro k kl bG A h;exact td
  exact this _ hk))
 obtain⟨S,h1,h2,h3⟩:=s3.own;obtain⟨S1,S2,q1,q2,hp⟩:=h1.j4 (k:=pt lo (.loop (L r))::k1) (kl':=pt r (.iY true)::bG) (by
  have:∀(k kr:List OA),aI k (k++kr) kr:=by
   intro k kr;induction k with
   |nil=>exact .nil
   |cons A k ih=>exact .cons .here ih
  exact this _ _)
 have hsub:∀i∈S1,i∈S:=λi hi=>hp.mem_iff.2 (jW _ hi);have st1:St S1 w2 (pt lo (.loop (L r))::k1) F1 w2:=⟨⟨bV _,λ_ _ _=>rfl,λ_ _=>rfl⟩,Wd.Le.refl w2,λi _ hz=>.inl hz,⟨S1,q1,(gX.1 (hp.nodup h2)).1,λi hi=>⟨.inr hi,(h3 i (hsub i hi)).2⟩⟩,λf hf=>s2.facts f (hF.mem f hf)⟩
 have hc:=it lo r S1 w2 st1;refine .rangeFunc fn first captured (by rw[ng];exact hf) (act n l ({target:=.collected r,args:= #[]}::D) pm none) w1.h r (.inl ⟨rfl,rfl,rfl,rfl⟩) (Left S1 w2 Mc (λy=>pt lo (.loop (ol (L r) (out y)))::k1' y) fs pr) ?_ ?_ ?_
 ·rw[jF];exact hc
 ·rintro v pm' h' ⟨rfl,w',y,rfl,c,hv,hpr⟩;have sc:St B w0 ((pt lo (.loop (ol (L r) (out y)))::k1' y)++(pt r (.iY true)::bG)) (fs y++F) w':=s3.call (k1:=pt lo (.loop (L r))::k1) (F1:=F1) ⟨S,hp,h2,h3⟩ q2 c;have hg:=(show St B w0 (pt lo (.loop (ol (L r) (out y)))::(k1' y++(pt r (.iY true)::bG))) (fs y++F) w' from sc).get;refine⟨ol (L r) (out y),hg.1,?_,?_⟩
  ·cases out y<;>simp[ol]
  ·have e:(ol (L r) (out y)).pending.getD .normal=out y:=by cases out y<;>rfl
   rw[e];exact next r y hpr _ (St.write (o':=.loop {ol (L r) (out y)with state:=.exhausted}) sc).tail
 ·rintro ch pm' h' ⟨rfl,w',y,rfl,c,hv,hpr⟩;cases hv
end
end Go.Ideal
namespace Go.Ideal
variable {P:Program}
def lX{S α:Type}(step:S->α->S×Bool):S->List α->S
 |s,[]=>s
 |s,x::xs=>match step s x with
  |(s',true)=>lX step s' xs
  |(s',false)=>s'
def oL{S α:Type}(step:S->α->S×Out):S->List α->S×Out
 |s,[]=>(s,.normal)
 |s,x::xs=>match step s x with
  |(s',.normal)=>oL step s' xs
  |(s',o)=>(s',o)
theorem Sub.refl'{α:Type}:∀(l k:List α),Sub l (k++l)
 |[],_=>.nil
 |a::l,k=>.cons (oF _ (cZ ..)) (by have:=Sub.refl' l (k++[a]);rwa [fU]at this)
theorem Sub.app{α:Type}:∀{k1 k2 l:List α},Sub k1 l->Sub k2 l->Sub (k1++k2) l
 |_,_,_,.nil,h=>h
 |_,_,_,.cons h h1,h2=>.cons h (h1.app h2)
section
variable {B:List Nat} {w0:Wd} {kl kl' bG:List OA} {F:List aK} {K:KO} {n:Nat} {l:List (Nat×Value)} {D:List Deferred} {pm:Option FrameMode} {ro:Option Nat}
theorem Rv{S α:Type}{step:S->α->S×Out}:∀(xs:List α) (s:S),lX (λ(so:S×Out) x=>(step so.1 x,qp (step so.1 x).2)) (s,Out.normal) xs=oL step s xs
 |[],s=>rfl
 |x::xs,s=>by
  have ih:=Rv (step:=step) xs;simp only[lX,oL];cases h:step s x with
  |mk s' o=>
   cases o with
   |normal=>simp only[qp];exact ih s'
   |_=>simp only[qp]
end
end Go.Ideal
namespace Go.Ideal
variable {P:Program} {ρ:Operand->Value}
theorem wrapN{m:Nat}(h:m<9223372036854775808):IntKind.i64.wrap (m:Int)=m:=wrap64 vj vj
variable{a b:Nat}{x y:Operand}{t:TypeId}
theorem aji(hx:ρ x=.int .i64 (a:Int))(hy:ρ y=.int .i64 (b:Int))(hb:b<64):Pu P ρ (.bin .shr t x y) (.int .i64 ((a>>>b:Nat):Int)):=λh=>by
 simp only[aB.run,hx,hy];rw[zX (op:=.shr) (v:=.int .i64 ((a>>>b:Nat):Int)) rfl (by
  show dV P (Op.shift .shr .i64 a .i64 b)=_;unfold Op.shift;rw[if_neg vj];show some (Value.int .i64 ((a:Int).fdiv (2^(min (b:Int).toNat 64))))=_;exact lR) rfl]
theorem Md(hx:ρ x=.int .i64 (a:Int))(hy:ρ y=.int .i64 (b:Int))(hb:b<64)(hr:a<<<b<9223372036854775808):Pu P ρ (.bin .shl t x y) (.int .i64 ((a<<<b:Nat):Int)):=λh=>by
 simp only[aB.run,hx,hy];rw[zX (op:=.shl) (v:=.int .i64 ((a<<<b:Nat):Int)) rfl (by
  show dV P (Op.shift .shl .i64 a .i64 b)=_;unfold Op.shift;rw[if_neg vj];show some (Value.int .i64 (IntKind.i64.wrap ((a:Int)*2^(min (b:Int).toNat 64))))=_;rw[show min (b:Int).toNat 64=b by simp;omega];rw[show((a:Int)*2^b)=((a<<<b:Nat):Int)by rw[JP];simp,wrapN hr]) rfl]
theorem HZ(h:a<9223372036854775808):(BitVec.ofInt 64 (a:Int)).toNat=a:=by
 simp[BitVec.toNat_ofInt];omega
theorem Em(hx:ρ x=.int .i64 (a:Int))(hy:ρ y=.int .i64 (b:Int))(ha:a<9223372036854775808)(hb:b<9223372036854775808):Pu P ρ (.bin .and t x y) (.int .i64 ((a&&&b:Nat):Int)):=λh=>by
 simp only[aB.run,hx,hy];rw[zX (op:=.and) (v:=.int .i64 ((a&&&b:Nat):Int)) rfl (by
  show dV P (Op.intBits .and .i64 a b)=_;show some (Value.int .i64 (IntKind.i64.wrap ((BitVec.ofInt 64 (a:Int)&&&BitVec.ofInt 64 (b:Int)).toNat:Int)))=_;rw[BitVec.toNat_and,HZ ha,HZ hb,wrapN (CU Nat.and_le_left ha)]) rfl]
theorem Me(hx:ρ x=.int .i64 (a:Int))(hy:ρ y=.int .i64 (b:Int))(ha:a<9223372036854775808)(hb:b<9223372036854775808):Pu P ρ (.bin .or t x y) (.int .i64 ((a|||b:Nat):Int)):=λh=>by
 simp only[aB.run,hx,hy];rw[zX (op:=.or) (v:=.int .i64 ((a|||b:Nat):Int)) rfl (by
  show dV P (Op.intBits .or .i64 a b)=_;show some (Value.int .i64 (IntKind.i64.wrap ((BitVec.ofInt 64 (a:Int)|||BitVec.ofInt 64 (b:Int)).toNat:Int)))=_;have:a|||b<2^63:=JQ vj vj;rw[BitVec.toNat_or,HZ ha,HZ hb,wrapN vj]) rfl]
end Go.Ideal
namespace Go.Ideal
variable {P:Program}
def Mf{X:Type}(f:X->List OA):OA:=⟨λw S=>∃x,fB w (f x) S,λa h ⟨x,hx⟩=>⟨x,fB.loc a h hx⟩⟩
section
variable {B:List Nat} {w0:Wd} {kl kl' bG:List OA} {F:List aK} {K:KO} {n:Nat} {l:List (Nat×Value)} {D:List Deferred} {pm:Option FrameMode} {ro:Option Nat}
variable{X:Type}{Q:IH->Prop}
theorem Rw{f:X->List OA}{eU:X->List OA}(hk:ay (Mf f) kl kl':=by exact iw)(ha:∀x,bR (f x) kl' (eU x):=by intro x;repeat (first|exact bR.nil|apply bR.cons|exact bR.self|exact bR.app))(h:∀x,R Q B w0 (eU x) F):R Q B w0 kl F:=λw s=>by
 obtain⟨S,⟨S1,S2,⟨x,q1⟩,q2,e⟩,h2,h3⟩:=(s.gK hk).own;refine h x w ?_;rw[<- (ha x).eq];exact⟨s.agree,s.le,s.gF,⟨S,by rw[e];exact q1.app q2,h2,h3⟩,s.facts⟩
theorem Rx(f:X->List OA)(x:X){Q:IH->Prop}(hk:aI (f x) kl bG:=by exact oK)(h:R Q B w0 (Mf f::bG) F):R Q B w0 kl F:=λw s=>by
 obtain⟨S,h1,h2,h3⟩:=s.own;obtain⟨S1,S2,q1,q2,hp⟩:=h1.j4 hk;exact h w ⟨s.agree,s.le,s.gF,⟨S1++S2,⟨S1,S2,⟨x,q1⟩,q2,rfl⟩,hp.nodup h2,λi hi=>h3 i (hp.mem_iff.2 hi)⟩,s.facts⟩
theorem fK(g:aK)(hg:∀w:Wd,(∀f∈F,f.p w)->g.p w)(h:R Q B w0 kl (g::F)):R Q B w0 kl F:=λw s=>
 h w ⟨s.agree,s.le,s.gF,s.own,λf hf=>by
  rcases dH.1 hf with rfl|hf
  ·exact hg w s.facts
  ·exact s.facts f hf⟩
variable{α:Type}
theorem Ry{E:Enc α}{w:Wd}{b f c:Nat}{v:Value}{xs:List α}(h1:(fA b 0 [v]).p w)(h2:(ai E v xs).p w)(hc:1<=c:=by first|exact bV _|omega)(hf:f=0\/f=1:=by first|exact .inl rfl|exact .inr rfl):(ai (ak E) (.slice (some ⟨b,0,some f⟩) 1 c) [xs]).p w:=by
 obtain⟨cells,q1,q2⟩:=h1;refine .inr ⟨b,0,f,c,cells,⟨rfl,hc,hf⟩,q1,λk x hk=>?_⟩;match k,hk with
 |0,hk=>
  cases hk;refine⟨v,λj u hj=>?_,λg hg=>by rw[bK.1 hg];exact h2⟩;have:=q2 j u hj;simpa using this
variable{Y:Type}
theorem Mg{f:FuncId}{args cap:List Value}{kl:List OA}{F:List aK}{val:Y->Value}{kl':Y->List OA}{fs:Y->List aK}{pr:Y->Prop}{c:dB}{m:Nat}{l0:List (Nat×Value)}(cf:gU)(hF:(pu P qi pz).F f=some cf)
 (hb:∀B w0,R (λh=>EV P c (act m l0 [] none none) h (ry P cf (Left B w0 val kl' fs pr))) B w0 kl F)
 (h1:cf.body=c:=by conv=>lhs;(reduce;(try simp only[Int.reduceOfNat,Int.reduceNegSucc]))) (h2:qR cf.ntmps (iF (args++cap))=m:=by conv=>lhs;whnf) (h3:pK 0 (args++cap) []=l0:=by dsimp only[pK,Nat.reduceAdd,List.append_nil,List.cons_append,List.nil_append]):aU P (.func f) args cap kl F val kl' fs pr:=
 abP cf hF hb h1 h2 h3
variable{eU:List OA}
theorem H6{o:Out}{cf:gU}{vs:List Value}{val:Y->Value}{k1:Y->List OA}{fs:Y->List aK}{pr:Y->Prop}(y:Y)(hD:jQ kl D eU:=by repeat (first|exact jQ.nil|(apply jQ.cons;(focus (repeat (first|with_reducible exact ay.here|with_reducible apply ay.there|with_reducible apply ay.app))))))
 (hr:RS l eU cf.results vs:=by exact BN) (hv:uA vs=val y) (hp:pr y)
 (hk:aI (k1 y) eU bG:=by exact oK) (hF:Sub (fs y) F:=by exact oJ)
 (ho:o=.normal\/o=.ret:=by first|exact .inl rfl|exact .inr rfl):R (λh=>ry P cf (Left B w0 val k1 fs pr) o (act n l D none ro) h) B w0 kl F:=
 abQ y hD hr hv hp hk hF ho
theorem En{lo:Nat}{L:oG}{out:Y->Out}{k1:Y->List OA}{fs:Y->List aK}{pr:Y->Prop}{o:Out}(y:Y)(ho:o=out y)(hn:Ei o)(hp:pr y)
 (hk:aI (pt lo (.loop (yD L))::k1 y) kl eU:=by exact oK) (hF:Sub (fs y) F:=by exact oJ):
 R (λh=>Ej B w0 lo L out k1 fs pr o (act n l [] none ro) h) B w0 kl F:=abR y ho hn hp hk hF
theorem fw(E:Enc α){ds:List Tmp}{rest:List bT}{d:Nat}{g:Option (Tmp×Bool)}{e:TypeId}{size bytes b':Nat}{s x:Operand}{v:Value}{xs:List α}(a:α)(y:E.Y){cs:List Value}{k1 k2:List OA}
 (hm:(xs.length+1)*bytes<=1073741824/\(xs.length+1)*size<=1073741824/\xs.length+1<=1073741824)
 (next:∀ad,R (λh=>aG P ds rest (act n ((d,.slice ad (xs.length+1) (xs.length+1))::l) D pm ro) h K) B w0 (ap E (.slice ad (xs.length+1) (xs.length+1)) (xs++[a])::k2) F)
 (hn:Nat.blt d n=true:=by rfl) (hg:bZ l g=true:=by rfl)
 (hs:ev l s=v:=by conv=>lhs;whnf) (hx:ev l x=.slice (some ⟨b',0,some 0⟩) 1 1:=by rfl) (hk:ay (ap E v xs) kl k1:=by exact iw) (hc:ay (pt b' (.cells cs)) k1 k2:=by exact iw) (hp:cs=E.pat a y:=by rfl) (hF:Sub (E.fs a y) F:=by exact oJ) (hz:E.n=size:=by rfl):
 R (λh=>aG P ds (⟨⟨some d,g,.append e size bytes s x⟩,[]⟩::rest) (act n l D pm ro) h K) B w0 kl F:=
 (abu hn hg hs hx hk hc hp hF hz hm).h λv' w st=>by
   obtain⟨S,⟨S1,S2,q,_⟩,_⟩:=st.own;obtain⟨ad,e⟩:=LX q;rw[iE,zk]at e;subst e;exact next ad w st
section
variable {ds:List Tmp} {rest:List bT} {d:Nat} {g:Option (Tmp×Bool)}
variable{x y:Operand}
theorem Mh{e:TypeId}{size bytes:Nat}{zero:List Value}(m:Nat)(hm:m*bytes<=1073741824/\m*size<=1073741824/\m<=1073741824)
 (next:∀b,R (λh=>aG P ds rest (act n ((d,.slice (some ⟨b,0,some 0⟩) m m)::l) D pm ro) h K) B w0 (pt b (.cells (zeros zero m))::kl) F)
 (hx:ev l x=.int .i64 (m:Int):=by rfl) (hy:ev l y=.int .i64 (m:Int):=by rfl) (hn:Nat.blt d n=true:=by rfl) (hg:bZ l g=true:=by rfl):
 R (λh=>aG P ds (⟨⟨some d,g,.zn e size bytes zero x y⟩,[]⟩::rest) (act n l D pm ro) h K) B w0 kl F:=(abg hn hg hx hy hm).h next
variable{b o:Nat}{cs:List Value}{v:Value}
theorem rz{cs':List Value}(hs:cs.set o v=cs')(ho:o<cs.length)
 (next:R (λh=>aG P ds rest (act n l D pm ro) h K) B w0 (pt b (.cells cs')::kl') F)
 (hx:ev l x=.pointer (some ⟨b,o,none⟩):=by rfl) (hy:ev l y=v:=by rfl) (hv:cellsOf v=some [v]:=by rfl) (hk:ay (pt b (.cells cs)) kl kl':=by exact iw) (hg:bZ l g=true:=by rfl):
 R (λh=>aG P ds (⟨⟨none,g,.store 1 x y⟩,[]⟩::rest) (act n l D pm ro) h K) B w0 kl F:=by subst hs;exact(abn hg hx hy hv hk ho).h next
theorem rA(v:Value)(hv:cs[o]? =some v)
 (next:R (λh=>aG P ds rest (act n ((d,v)::l) D pm ro) h K) B w0 kl F)
 (hx:ev l x=.pointer (some ⟨b,o,none⟩):=by rfl) (hk:ay (pt b (.cells cs)) kl kl':=by exact iw) (hn:Nat.blt d n=true:=by rfl) (hg:bZ l g=true:=by rfl):
 R (λh=>aG P ds (⟨⟨some d,g,.gB x⟩,[]⟩::rest) (act n l D pm ro) h K) B w0 kl F:=(abo hn hg hx hk hv).h next
theorem abT{i:Operand}{xs:List Int}(k:Nat)(z:Int){kk:IntKind}{d2:Nat}(hz:xs[k]? =some z)
 (next:∀b o,R (λh=>aG P ds rest (act n ((d2,.int .i64 z)::(d,.pointer (some ⟨b,o,none⟩))::l) D pm ro) h K) B w0 kl F)
 (hx:ev l x=v:=by conv=>lhs;whnf) (hi:ev l i=.int kk (k:Int):=by rfl) (hk:ay (ap ae v xs) kl kl':=by exact iw) (hn:Nat.blt d n=true:=by rfl) (hn2:Nat.blt d2 n=true:=by rfl):
 R (λh=>aG P ds (⟨⟨some d,none,.nG 1 x i⟩,[]⟩::⟨⟨some d2,none,.gB (.tmp d)⟩,[]⟩::rest) (act n l D pm ro) h K) B w0 kl F:=(abv hn rfl hn2 (λ_=>rfl) hx hi hk hz).h next
end
end
