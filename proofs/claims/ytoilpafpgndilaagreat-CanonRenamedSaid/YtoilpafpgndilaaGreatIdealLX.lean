/-
  Part IdealLX.
-/
import Derived.Test.YtoilpafpgndilaaGreatIdealKX
set_option linter.all false
namespace Go.Ideal
variable {P:Program}
def rQ(P:Program)(cf:gV)(K:KR):KO:=λo a h=>match uC o with
 |none=>False
 |some m=>LEAVE P cf a.tmps a.defers m h λr h''=>K r a.pm h''
theorem acE{Y:Type}{f:FuncId}{args cap:List Value}{kl:List OA}{F:List aO}{val:Y->Value}{kl':Y->List OA}{fs:Y->List aO}{pr:Y->Prop}{c:dI}{m:Nat}{l0:List (Nat×Value)}(cf:gV)(hF:(pX P qC pY).F f=some cf)
 (hb:∀B w0,R (λh=>EV P c (act m l0 [] none none) h (rQ P cf (Left B w0 val kl' fs pr))) B w0 kl F)
 (h1:cf.body=c:=by conv=>lhs;(reduce;(try simp only[Int.reduceOfNat,Int.reduceNegSucc]))) (h2:rD cf.ntmps (iL (args++cap))=m:=by conv=>lhs;whnf) (h3:qg 0 (args++cap) []=l0:=by dsimp only[qg,Nat.reduceAdd,List.append_nil,List.cons_append,List.nil_append]):bA P (.func f) args cap kl F val kl' fs pr:=by
 intro B w s;obtain⟨fn,e1,e2⟩:=(Cr P qC pY (λf q h v h' hm=>by cases hm)).fn f cf hF;refine RO cf fn e1 e2 ?_;rw[ME,h1,h2,h3];exact hb B w w s
section
variable {B:List Nat} {w0:Wd} {kl kl' bH:List OA} {F:List aO} {K:KO} {n:Nat} {l:List (Nat×Value)} {D:List Deferred} {pm:Option FrameMode} {ro:Option Nat}
inductive jZ:List OA->List Deferred->List OA->Prop
 |nil {kl:List OA}:jZ kl [] kl
 |cons {kl kl' fu:List OA} {r:Nat} {args:Array Value} {D:List Deferred} (h:az (pt r (.jb true)) kl kl') (t:jZ kl' D fu):jZ kl ({target:=.collected r,args}::D) fu
theorem jZ.leave{cf:gV}{ts:T Value}{Kr:iU->IH->Prop}:∀{D:List Deferred} {kl fu:List OA},jZ kl D fu->(∀w',St B w0 fu F w'->∃v,qB cf.results ts w'.h=some v/\Kr (.ok v) w'.h)->∀w,St B w0 kl F w->LEAVE P cf ts D .returning w.h Kr
 |_,_,_,.nil,hk,w,s=>by
  obtain⟨v,h1,h2⟩:=hk w s;exact .ret v h1 h2
 |_,_,_,.cons (r:=r) h t,hk,w,s=>by
  have s1:=s.gq h;refine .coll (by intro e;cases e) r s1.get.1 ?_;exact jZ.leave t hk _ (s1.write (o':=.jb false)).tail
theorem acF{Y:Type}{o:Out}{cf:gV}{vs:List Value}{val:Y->Value}{k1:Y->List OA}{fs:Y->List aO}{pr:Y->Prop}{fu:List OA}(y:Y)(hD:jZ kl D fu)(hr:RS l fu cf.results vs)(hv:rO vs=val y)(hp:pr y)(hk:aI (k1 y) fu bH)(hF:Sub (fs y) F)
 (ho:o=.normal\/o=.ret):R (λh=>rQ P cf (Left B w0 val k1 fs pr) o (act n l D none ro) h) B w0 kl F:=by
 intro w s;have key:LEAVE P cf (iV l) D .returning w.h λr h''=>Left B w0 val k1 fs pr r none h'':=by
  refine jZ.leave hD (λw' s'=>⟨val y,?_,rfl,w',y,rfl,((s'.kv hk).drop).sub hF,rfl,hp⟩) w s;unfold qB;rw[hr.all s',<- hv];match vs with
  |[]=>rfl
  |[v]=>rfl
  |_::_::_=>rfl
 rcases ho with rfl|rfl
 ·exact key
 ·exact key
def y5(L:oV):oV:={L with state:=.busy}
def oG(L:oV)(o:Out):oV:=match o with
 | .normal=>{L with state:=.ready,pending:=none}
 |o=>{L with state:=.done,pending:=some o}
def qH(o:Out):Bool:=match o with
 | .normal=>true
 |_=>false
def EW(o:Out):Prop:=match o with
 | .panic _=>False
 |_=>True
def EX{Y:Type}(B:List Nat)(w0:Wd)(lo:Nat)(L:oV)(out:Y->Out)(k1:Y->List OA)(fs:Y->List aO)(pr:Y->Prop):KO:=λo a h=>
 a.defers=[]/\∃(w:Wd) (y:Y),w.h=h/\o=out y/\EW o/\St B w0 (pt lo (.loop (y5 L))::k1 y) (fs y) w/\pr y
theorem acG{Y:Type}{lo:Nat}{L:oV}{out:Y->Out}{k1:Y->List OA}{fs:Y->List aO}{pr:Y->Prop}{o:Out}{fu:List OA}(y:Y)(ho:o=out y)(hn:EW o)(hp:pr y)(hk:aI (pt lo (.loop (y5 L))::k1 y) kl fu)(hF:Sub (fs y) F):
 R (λh=>EX B w0 lo L out k1 fs pr o (act n l [] none ro) h) B w0 kl F:=λw s=>⟨rfl,w,y,rfl,ho,hn,((s.kv hk).drop).sub hF,hp⟩
theorem Sv(n:Nat):∀(ps:List Tmp) (args:List Value) (l:List (Nat×Value)),ps.all (λp=>Nat.blt p n)=true->ps.length=args.length->∃l2,uD n ps args (iV l)=iV l2/\l2=(ps.zip args).reverse++l
 |[],[],l,_,_=>⟨l,rfl,rfl⟩
 |p::ps,v::args,l,h,e=>by
  simp only[List.all_cons,fe]at h;obtain⟨l2,h1,h2⟩:=Sv n ps args ((p,v)::l) h.2 (by simpa using e);refine⟨l2,?_,by rw[h2];simp⟩;rw[<- h1];show uD n ps args (cond (Nat.blt p n) ((iV l).set p (some v)) (iV l))=_;rw[h.1];rfl
theorem acH{Y:Type}{f:Operand}{ps:List Tmp}{assign body:dI}{fn:Fn}{first captured:List Value}{k1:List OA}{F1:List aO}{MJ:Y->Value}{out:Y->Out}{k1':Y->List OA}{fs:Y->List aO}{pr:Y->Prop}
 (hf:ev l f=.func fn ⟨first⟩ ⟨captured⟩)
 (it:∀lo r,bA P fn (first++[.func (.yield lo) #[] #[]]) captured (pt lo (.loop ⟨.ready,none,iV l,n,ps,assign,body,r⟩)::k1) F1 MJ (λy=>pt lo (.loop (oG ⟨.ready,none,iV l,n,ps,assign,body,r⟩ (out y)))::k1' y) fs pr)
 (hk:aI k1 kl bH) (hF:Sub F1 F)
 (next:∀r y,pr y->R (λh=>K (out y) (act n l ({target:=.collected r,args:= #[]}::D) pm none) h) B w0 (k1' y++(pt r (.jb true)::bH)) (fs y++F)):
 R (λh=>EV P (.rangeFunc f ps assign body) (act n l D pm none) h K) B w0 kl F:=by
 intro w s;let L:Nat->oV:=λr=>⟨.ready,none,iV l,n,ps,assign,body,r⟩
 let r:=w.h.next
 let w1:=w.new (.jb true)
 have s1:St B w0 (pt r (.jb true)::kl) F w1:=s.new _;let lo:=w1.h.next
 let w2:=w1.new (.loop (L r))
 have s2:St B w0 (pt lo (.loop (L r))::pt r (.jb true)::kl) F w2:=s1.new _;have s3:St B w0 ((pt lo (.loop (L r))::k1)++(pt r (.jb true)::bH)) F w2:=s2.kv (k:=pt lo (.loop (L r))::k1) (kl':=pt r (.jb true)::bH) (.cons .here (by
  have:∀{k kl bH:List OA} (A:OA),aI k kl bH->aI k (A::kl) (A::bH):=by
   intro k kl bH A h;induction h with
   |nil=>exact .nil
   |cons h1 _ ih=>exact .cons (.there h1) ih
  exact this _ hk))
 obtain⟨S,h1,h2,h3⟩:=s3.own;obtain⟨S1,S2,q1,q2,hp⟩:=h1.kv (k:=pt lo (.loop (L r))::k1) (kl':=pt r (.jb true)::bH) (by
  have:∀(k kr:List OA),aI k (k++kr) kr:=by
   intro k kr;induction k with
   |nil=>exact .nil
   |cons A k ih=>exact .cons .here ih
  exact this _ _)
 have hsub:∀i∈S1,i∈S:=λi hi=>hp.mem_iff.2 (je _ hi);have st1:St S1 w2 (pt lo (.loop (L r))::k1) F1 w2:=⟨⟨bT _,λ_ _ _=>rfl,λ_ _=>rfl⟩,Wd.Le.refl w2,λi _ hz=>.inl hz,⟨S1,q1,(iT.1 (hp.nodup h2)).1,λi hi=>⟨.inr hi,(h3 i (hsub i hi)).2⟩⟩,λf hf=>s2.facts f (hF.mem f hf)⟩
 have hc:=it lo r S1 w2 st1;refine .rangeFunc fn first captured (by rw[nI];exact hf) (act n l ({target:=.collected r,args:= #[]}::D) pm none) w1.h r (.inl ⟨rfl,rfl,rfl,rfl⟩) (Left S1 w2 MJ (λy=>pt lo (.loop (oG (L r) (out y)))::k1' y) fs pr) ?_ ?_ ?_
 ·rw[jK];exact hc
 ·rintro v pm' h' ⟨rfl,w',y,rfl,c,hv,hpr⟩;have sc:St B w0 ((pt lo (.loop (oG (L r) (out y)))::k1' y)++(pt r (.jb true)::bH)) (fs y++F) w':=s3.call (k1:=pt lo (.loop (L r))::k1) (F1:=F1) ⟨S,hp,h2,h3⟩ q2 c;have hg:=(show St B w0 (pt lo (.loop (oG (L r) (out y)))::(k1' y++(pt r (.jb true)::bH))) (fs y++F) w' from sc).get;refine⟨oG (L r) (out y),hg.1,?_,?_⟩
  ·cases out y<;>simp[oG]
  ·have e:(oG (L r) (out y)).pending.getD .normal=out y:=by cases out y<;>rfl
   rw[e];exact next r y hpr _ (St.write (o':=.loop {oG (L r) (out y)with state:=.exhausted}) sc).tail
 ·rintro ch pm' h' ⟨rfl,w',y,rfl,c,hv,hpr⟩;cases hv
end
end Go.Ideal
namespace Go.Ideal
variable {P:Program}
def mD{S α:Type}(step:S->α->S×Bool):S->List α->S
 |s,[]=>s
 |s,x::xs=>match step s x with
  |(s',true)=>mD step s' xs
  |(s',false)=>s'
def pq{S α:Type}(step:S->α->S×Out):S->List α->S×Out
 |s,[]=>(s,.normal)
 |s,x::xs=>match step s x with
  |(s',.normal)=>pq step s' xs
  |(s',o)=>(s',o)
theorem Sub.refl'{α:Type}:∀(l k:List α),Sub l (k++l)
 |[],_=>.nil
 |a::l,k=>.cons (nA _ (cB ..)) (by have:=Sub.refl' l (k++[a]);rwa [List.append_assoc]at this)
theorem Sub.app{α:Type}:∀{k1 k2 l:List α},Sub k1 l->Sub k2 l->Sub (k1++k2) l
 |_,_,_,.nil,h=>h
 |_,_,_,.cons h h1,h2=>.cons h (h1.app h2)
section
variable {B:List Nat} {w0:Wd} {kl kl' bH:List OA} {F:List aO} {K:KO} {n:Nat} {l:List (Nat×Value)} {D:List Deferred} {pm:Option FrameMode} {ro:Option Nat}
theorem Sw{S α:Type}{step:S->α->S×Out}:∀(xs:List α) (s:S),mD (λ(so:S×Out) x=>(step so.1 x,qH (step so.1 x).2)) (s,Out.normal) xs=pq step s xs
 |[],s=>rfl
 |x::xs,s=>by
  have ih:=Sw (step:=step) xs;simp only[mD,pq];cases h:step s x with
  |mk s' o=>
   cases o with
   |normal=>simp only[qH];exact ih s'
   |_=>simp only[qH]
end
end Go.Ideal
namespace Go.Ideal
variable {P:Program} {ρ:Operand->Value}
theorem wrapN{m:Nat}(h:m<9223372036854775808):IntKind.i64.wrap (m:Int)=m:=wrap64 (by omega) (by omega)
theorem Sy{x y:Operand}{t:TypeId}{a b:Nat}(hx:ρ x=.int .i64 (a:Int))(hy:ρ y=.int .i64 (b:Int))(hb:b<64)(hr:a<<<b<9223372036854775808):Pu P ρ (.bin .shl t x y) (.int .i64 ((a<<<b:Nat):Int)):=λh=>by
 simp only[aF.run,hx,hy];rw[EM (op:=.shl) (v:=.int .i64 ((a<<<b:Nat):Int)) rfl (by
  show eD P (Op.shift .shl .i64 a .i64 b)=_;unfold Op.shift;rw[if_neg (by omega)];show some (Value.int .i64 (IntKind.i64.wrap ((a:Int)*2^(min (b:Int).toNat 64))))=_;rw[show min (b:Int).toNat 64=b by simp;omega];rw[show((a:Int)*2^b)=((a<<<b:Nat):Int)by rw[Nat.shiftLeft_eq];simp,wrapN hr]) rfl]
theorem Sz{a:Nat}(h:a<9223372036854775808):(BitVec.ofInt 64 (a:Int)).toNat=a:=by
 simp[BitVec.toNat_ofInt];omega
theorem SA{x y:Operand}{t:TypeId}{a b:Nat}(hx:ρ x=.int .i64 (a:Int))(hy:ρ y=.int .i64 (b:Int))(ha:a<9223372036854775808)(hb:b<9223372036854775808):Pu P ρ (.bin .or t x y) (.int .i64 ((a|||b:Nat):Int)):=λh=>by
 simp only[aF.run,hx,hy];rw[EM (op:=.or) (v:=.int .i64 ((a|||b:Nat):Int)) rfl (by
  show eD P (Op.intBits .or .i64 a b)=_;show some (Value.int .i64 (IntKind.i64.wrap ((BitVec.ofInt 64 (a:Int)|||BitVec.ofInt 64 (b:Int)).toNat:Int)))=_;have:a|||b<2^63:=Nat.or_lt_two_pow (by omega) (by omega);rw[BitVec.toNat_or,Sz ha,Sz hb,wrapN (by omega)]) rfl]
end Go.Ideal
namespace Go.Ideal
variable {P:Program}
def MK{X:Type}(f:X->List OA):OA:=⟨λw S=>∃x,fI w (f x) S,λa h ⟨x,hx⟩=>⟨x,fI.loc a h hx⟩⟩
theorem II{ρ:Operand->Value}{x y:Operand}{a b:Int}(hx:ρ x=.int .i64 a)(hy:ρ y=.int .i64 b):Pu P ρ (.zW false [x,y]) (.int .i64 (min a b)):=λh=>by
 have e:lN ρ [x,y]=[.int .i64 a,.int .i64 b]:=by rw[vQ];simp[hx,hy]
 simp only[aF.run,e,uA,cond];by_cases hb:a<=b
 ·rw[tC,dK hb,Int.min_eq_left hb]
 ·have:leZ a b=false:=by rw[tC,aR hb]
  rw[this,Int.min_eq_right (by omega)]
section
variable {B:List Nat} {w0:Wd} {kl kl' bH:List OA} {F:List aO} {K:KO} {n:Nat} {l:List (Nat×Value)} {D:List Deferred} {pm:Option FrameMode} {ro:Option Nat}
theorem SB{X:Type}{f:X->List OA}{fu:X->List OA}{Q:IH->Prop}(hk:az (MK f) kl kl':=by exact gN)(ha:∀x,bS (f x) kl' (fu x):=by intro x;repeat (first|exact bS.nil|apply bS.cons|exact bS.self|exact bS.app))(h:∀x,R Q B w0 (fu x) F):R Q B w0 kl F:=λw s=>by
 obtain⟨S,⟨S1,S2,⟨x,q1⟩,q2,e⟩,h2,h3⟩:=(s.gq hk).own;refine h x w ?_;rw[<- (ha x).eq];exact⟨s.agree,s.le,s.gF,⟨S,by rw[e];exact q1.app q2,h2,h3⟩,s.facts⟩
theorem SC{X:Type}(f:X->List OA)(x:X){Q:IH->Prop}(hk:aI (f x) kl bH:=by exact pg)(h:R Q B w0 (MK f::bH) F):R Q B w0 kl F:=λw s=>by
 obtain⟨S,h1,h2,h3⟩:=s.own;obtain⟨S1,S2,q1,q2,hp⟩:=h1.kv hk;exact h w ⟨s.agree,s.le,s.gF,⟨S1++S2,⟨S1,S2,⟨x,q1⟩,q2,rfl⟩,hp.nodup h2,λi hi=>h3 i (hp.mem_iff.2 hi)⟩,s.facts⟩
theorem eF{Q:IH->Prop}(g:aO)(hg:∀w:Wd,(∀f∈F,f.p w)->g.p w)(h:R Q B w0 kl (g::F)):R Q B w0 kl F:=λw s=>
 h w ⟨s.agree,s.le,s.gF,s.own,λf hf=>by
  rcases dx.1 hf with rfl|hf
  ·exact hg w s.facts
  ·exact s.facts f hf⟩
theorem ML{α:Type}{E:Enc α}{w:Wd}{b f c:Nat}{v:Value}{xs:List α}(h1:(gY b 0 [v]).p w)(h2:(ai E v xs).p w)(hc:1<=c:=by first|exact bT _|omega)(hf:f=0\/f=1:=by first|exact .inl rfl|exact .inr rfl):(ai (ak E) (.slice (some ⟨b,0,some f⟩) 1 c) [xs]).p w:=by
 obtain⟨cells,q1,q2⟩:=h1;refine .inr ⟨b,0,f,c,cells,⟨rfl,hc,hf⟩,q1,λk x hk=>?_⟩;match k,hk with
 |0,hk=>
  cases hk;refine⟨v,λj u hj=>?_,λg hg=>by rw[bM.1 hg];exact h2⟩;have:=q2 j u hj;simpa using this
theorem MM{Y:Type}{f:FuncId}{args cap:List Value}{kl:List OA}{F:List aO}{val:Y->Value}{kl':Y->List OA}{fs:Y->List aO}{pr:Y->Prop}{c:dI}{m:Nat}{l0:List (Nat×Value)}(cf:gV)(hF:(pX P qC pY).F f=some cf)
 (hb:∀B w0,R (λh=>EV P c (act m l0 [] none none) h (rQ P cf (Left B w0 val kl' fs pr))) B w0 kl F)
 (h1:cf.body=c:=by conv=>lhs;(reduce;(try simp only[Int.reduceOfNat,Int.reduceNegSucc]))) (h2:rD cf.ntmps (iL (args++cap))=m:=by conv=>lhs;whnf) (h3:qg 0 (args++cap) []=l0:=by dsimp only[qg,Nat.reduceAdd,List.append_nil,List.cons_append,List.nil_append]):bA P (.func f) args cap kl F val kl' fs pr:=
 acE cf hF hb h1 h2 h3
theorem IJ{Y:Type}{o:Out}{cf:gV}{vs:List Value}{val:Y->Value}{k1:Y->List OA}{fs:Y->List aO}{pr:Y->Prop}{fu:List OA}(y:Y)(hD:jZ kl D fu:=by repeat (first|exact jZ.nil|(apply jZ.cons;(focus (repeat (first|with_reducible exact az.here|with_reducible apply az.there|with_reducible apply az.app))))))
 (hr:RS l fu cf.results vs:=by exact Cz) (hv:rO vs=val y) (hp:pr y)
 (hk:aI (k1 y) fu bH:=by exact pg) (hF:Sub (fs y) F:=by exact o9)
 (ho:o=.normal\/o=.ret:=by first|exact .inl rfl|exact .inr rfl):R (λh=>rQ P cf (Left B w0 val k1 fs pr) o (act n l D none ro) h) B w0 kl F:=
 acF y hD hr hv hp hk hF ho
theorem EY{Y:Type}{lo:Nat}{L:oV}{out:Y->Out}{k1:Y->List OA}{fs:Y->List aO}{pr:Y->Prop}{o:Out}{fu:List OA}(y:Y)(ho:o=out y)(hn:EW o)(hp:pr y)
 (hk:aI (pt lo (.loop (y5 L))::k1 y) kl fu:=by exact pg) (hF:Sub (fs y) F:=by exact o9):
 R (λh=>EX B w0 lo L out k1 fs pr o (act n l [] none ro) h) B w0 kl F:=acG y ho hn hp hk hF
theorem fB{α:Type}(E:Enc α){ds:List Tmp}{rest:List bV}{d:Nat}{g:Option (Tmp×Bool)}{e:TypeId}{size bytes b':Nat}{s x:Operand}{v:Value}{xs:List α}(a:α)(y:E.Y){cs:List Value}{k1 k2:List OA}
 (hm:(xs.length+1)*bytes<=1073741824/\(xs.length+1)*size<=1073741824/\xs.length+1<=1073741824)
 (next:∀ad,R (λh=>aH P ds rest (act n ((d,.slice ad (xs.length+1) (xs.length+1))::l) D pm ro) h K) B w0 (ap E (.slice ad (xs.length+1) (xs.length+1)) (xs++[a])::k2) F)
 (hn:Nat.blt d n=true:=by rfl) (hg:cZ l g=true:=by rfl)
 (hs:ev l s=v:=by conv=>lhs;whnf) (hx:ev l x=.slice (some ⟨b',0,some 0⟩) 1 1:=by rfl) (hk:az (ap E v xs) kl k1:=by exact gN) (hc:az (pt b' (.cells cs)) k1 k2:=by exact gN) (hp:cs=E.pat a y:=by rfl) (hF:Sub (E.fs a y) F:=by exact o9) (hz:E.n=size:=by rfl):
 R (λh=>aH P ds (⟨⟨some d,g,.append e size bytes s x⟩,[]⟩::rest) (act n l D pm ro) h K) B w0 kl F:=
 (acf hn hg hs hx hk hc hp hF hz hm).h λv' w st=>by
   obtain⟨S,⟨S1,S2,q,_⟩,_⟩:=st.own;obtain⟨ad,e⟩:=Mx q;rw[iH,zS]at e;subst e;exact next ad w st
section
variable {ds:List Tmp} {rest:List bV} {d:Nat} {g:Option (Tmp×Bool)}
theorem IK{e:TypeId}{size bytes:Nat}{zero:List Value}{x y:Operand}(m:Nat)(hm:m*bytes<=1073741824/\m*size<=1073741824/\m<=1073741824)
 (next:∀b,R (λh=>aH P ds rest (act n ((d,.slice (some ⟨b,0,some 0⟩) m m)::l) D pm ro) h K) B w0 (pt b (.cells (zeros zero m))::kl) F)
 (hx:ev l x=.int .i64 (m:Int):=by rfl) (hy:ev l y=.int .i64 (m:Int):=by rfl) (hn:Nat.blt d n=true:=by rfl) (hg:cZ l g=true:=by rfl):
 R (λh=>aH P ds (⟨⟨some d,g,.zV e size bytes zero x y⟩,[]⟩::rest) (act n l D pm ro) h K) B w0 kl F:=(ab0 hn hg hx hy hm).h next
theorem qI{x y:Operand}{b o:Nat}{cs cs':List Value}{v:Value}(hs:cs.set o v=cs')(ho:o<cs.length)
 (next:R (λh=>aH P ds rest (act n l D pm ro) h K) B w0 (pt b (.cells cs')::kl') F)
 (hx:ev l x=.pointer (some ⟨b,o,none⟩):=by rfl) (hy:ev l y=v:=by rfl) (hv:cellsOf v=some [v]:=by rfl) (hk:az (pt b (.cells cs)) kl kl':=by exact gN) (hg:cZ l g=true:=by rfl):
 R (λh=>aH P ds (⟨⟨none,g,.store 1 x y⟩,[]⟩::rest) (act n l D pm ro) h K) B w0 kl F:=by subst hs;exact(ab6 hg hx hy hv hk ho).h next
theorem qh{x:Operand}{b o:Nat}{cs:List Value}(v:Value)(hv:cs[o]? =some v)
 (next:R (λh=>aH P ds rest (act n ((d,v)::l) D pm ro) h K) B w0 kl F)
 (hx:ev l x=.pointer (some ⟨b,o,none⟩):=by rfl) (hk:az (pt b (.cells cs)) kl kl':=by exact gN) (hn:Nat.blt d n=true:=by rfl) (hg:cZ l g=true:=by rfl):
 R (λh=>aH P ds (⟨⟨some d,g,.gQ x⟩,[]⟩::rest) (act n l D pm ro) h K) B w0 kl F:=(ab7 hn hg hx hk hv).h next
theorem acI{x i:Operand}{v:Value}{xs:List Int}(k:Nat)(z:Int){kk:IntKind}{d2:Nat}(hz:xs[k]? =some z)
 (next:∀b o,R (λh=>aH P ds rest (act n ((d2,.int .i64 z)::(d,.pointer (some ⟨b,o,none⟩))::l) D pm ro) h K) B w0 kl F)
 (hx:ev l x=v:=by conv=>lhs;whnf) (hi:ev l i=.int kk (k:Int):=by rfl) (hk:az (ap ae v xs) kl kl':=by exact gN) (hn:Nat.blt d n=true:=by rfl) (hn2:Nat.blt d2 n=true:=by rfl):
 R (λh=>aH P ds (⟨⟨some d,none,.nQ 1 x i⟩,[]⟩::⟨⟨some d2,none,.gQ (.tmp d)⟩,[]⟩::rest) (act n l D pm ro) h K) B w0 kl F:=(acg hn rfl hn2 (λ_=>rfl) hx hi hk hz).h next
end
end
