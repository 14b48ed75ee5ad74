/-
  The ideal machine, 57: loops over functions, seen from all states of a kind; functions that leave collected ends behind.
-/
import Derived.Test.YtoohgkkmdnbnfaaGreatDoorIdealKA
set_option linter.all false
namespace Go.Ideal
variable {P:Program}
def pX(P:Program)(cf:gN)(K:KR):KO:=λo a h=>match sK o with
 |none=>False
 |some m=>LEAVE P cf a.tmps a.defers m h λr h''=>K r a.pm h''
theorem aba{Y:Type}{f:FuncId}{args cap:List Value}{kl:List OA}{F:List aH}{val:Y->Value}{kl':Y->List OA}{fs:Y->List aH}{pr:Y->Prop}{c:dx}{m:Nat}{l0:List (Nat×Value)}(cf:gN)(hF:(nN P pQ pR).F f=some cf)
 (hb:∀B w0,R (λh=>EV P c (act m l0 [] none none) h (pX P cf (Left B w0 val kl' fs pr))) B w0 kl F)
 (h1:cf.body=c:=by conv=>lhs;(reduce;(try simp only[Int.reduceOfNat,Int.reduceNegSucc]))) (h2:qz cf.ntmps (iE (args++cap))=m:=by conv=>lhs;whnf) (h3:oP 0 (args++cap) []=l0:=by dsimp only[oP,Nat.reduceAdd,List.append_nil,List.cons_append,List.nil_append]):bi P (.func f) args cap kl F val kl' fs pr:=by
 intro B w s;obtain⟨fn,e1,e2⟩:=(xL P pQ pR (λf q h v h' hm=>by cases hm)).fn f cf hF;refine QD cf fn e1 e2 ?_;rw[LD,h1,h2,h3];exact hb B w w s
section
variable {B:List Nat} {w0:Wd} {kl kl' bq:List OA} {F:List aH} {K:KO} {n:Nat} {l:List (Nat×Value)} {D:List Deferred} {pm:Option FrameMode} {ro:Option Nat}
inductive jq:List OA->List Deferred->List OA->Prop
 |nil {kl:List OA}:jq kl [] kl
 |cons {kl kl' dM:List OA} {r:Nat} {args:Array Value} {D:List Deferred} (h:ay (pt r (.ig true)) kl kl') (t:jq kl' D dM):jq kl ({target:=.collected r,args}::D) dM
theorem jq.leave{cf:gN}{ts:T Value}{Kr:iH->IH->Prop}:∀{D:List Deferred} {kl dM:List OA},jq kl D dM->(∀w',St B w0 dM F w'->∃v,pO cf.results ts w'.h=some v/\Kr (.ok v) w'.h)->∀w,St B w0 kl F w->LEAVE P cf ts D .returning w.h Kr
 |_,_,_,.nil,hk,w,s=>by
  obtain⟨v,h1,h2⟩:=hk w s;exact .ret v h1 h2
 |_,_,_,.cons (r:=r) h t,hk,w,s=>by
  have s1:=s.fV h;refine .coll (by intro e;cases e) r s1.get.1 ?_;exact jq.leave t hk _ (s1.write (o':=.ig false)).tail
theorem Q6{Y:Type}{o:Out}{cf:gN}{vs:List Value}{val:Y->Value}{k1:Y->List OA}{fs:Y->List aH}{pr:Y->Prop}{dM:List OA}(y:Y)(hD:jq kl D dM)(hr:RS l dM cf.results vs)(hv:qH vs=val y)(hp:pr y)(hk:aI (k1 y) dM bq)(hF:Sub (fs y) F)
 (ho:o=.normal\/o=.ret):R (λh=>pX P cf (Left B w0 val k1 fs pr) o (act n l D none ro) h) B w0 kl F:=by
 intro w s;have key:LEAVE P cf (gW l) D .returning w.h λr h''=>Left B w0 val k1 fs pr r none h'':=by
  refine jq.leave hD (λw' s'=>⟨val y,?_,rfl,w',y,rfl,((s'.jD hk).drop).sub hF,rfl,hp⟩) w s;unfold pO;rw[hr.all s',<- hv];match vs with
  |[]=>rfl
  |[v]=>rfl
  |_::_::_=>rfl
 rcases ho with rfl|rfl
 ·exact key
 ·exact key
def uE(L:mZ):mZ:={L with state:=.busy}
def lK(L:mZ)(o:Out):mZ:=match o with
 | .normal=>{L with state:=.ready,pending:=none}
 |o=>{L with state:=.done,pending:=some o}
def l9(o:Out):Bool:=match o with
 | .normal=>true
 |_=>false
def zK(o:Out):Prop:=match o with
 | .panic _=>False
 |_=>True
def zM{Y:Type}(B:List Nat)(w0:Wd)(lo:Nat)(L:mZ)(out:Y->Out)(k1:Y->List OA)(fs:Y->List aH)(pr:Y->Prop):KO:=λo a h=>
 a.defers=[]/\∃(w:Wd) (y:Y),w.h=h/\o=out y/\zK o/\St B w0 (pt lo (.loop (uE L))::k1 y) (fs y) w/\pr y
theorem abb{Y:Type}{lo:Nat}{L:mZ}{out:Y->Out}{k1:Y->List OA}{fs:Y->List aH}{pr:Y->Prop}{o:Out}{dM:List OA}(y:Y)(ho:o=out y)(hn:zK o)(hp:pr y)(hk:aI (pt lo (.loop (uE L))::k1 y) kl dM)(hF:Sub (fs y) F):
 R (λh=>zM B w0 lo L out k1 fs pr o (act n l [] none ro) h) B w0 kl F:=λw s=>⟨rfl,w,y,rfl,ho,hn,((s.jD hk).drop).sub hF,hp⟩
theorem Q7(n:Nat):∀(ps:List Tmp) (args:List Value) (l:List (Nat×Value)),ps.all (λp=>Nat.blt p n)=true->ps.length=args.length->∃l2,sM n ps args (gW l)=gW l2/\l2=(ps.zip args).reverse++l
 |[],[],l,_,_=>⟨l,rfl,rfl⟩
 |p::ps,v::args,l,h,e=>by
  simp only[CS,gL]at h;obtain⟨l2,h1,h2⟩:=Q7 n ps args ((p,v)::l) h.2 (by simpa using e);refine⟨l2,?_,by rw[h2];simp⟩;rw[<- h1];show sM n ps args (cond (Nat.blt p n) ((gW l).set p (some v)) (gW l))=_;rw[h.1];rfl
theorem Q8{Y:Type}{f:Operand}{ps:List Tmp}{assign body:dx}{fn:Fn}{first captured:List Value}{k1:List OA}{F1:List aH}{H6:Y->Value}{out:Y->Out}{k1':Y->List OA}{fs:Y->List aH}{pr:Y->Prop}
 (hf:ev l f=.func fn ⟨first⟩ ⟨captured⟩)
 (it:∀lo r,bi P fn (first++[.func (.yield lo) #[] #[]]) captured (pt lo (.loop ⟨.ready,none,gW l,n,ps,assign,body,r⟩)::k1) F1 H6 (λy=>pt lo (.loop (lK ⟨.ready,none,gW l,n,ps,assign,body,r⟩ (out y)))::k1' y) fs pr)
 (hk:aI k1 kl bq) (hF:Sub F1 F)
 (next:∀r y,pr y->R (λh=>K (out y) (act n l ({target:=.collected r,args:= #[]}::D) pm none) h) B w0 (k1' y++(pt r (.ig true)::bq)) (fs y++F)):
 R (λh=>EV P (.rangeFunc f ps assign body) (act n l D pm none) h K) B w0 kl F:=by
 intro w s;let L:Nat->mZ:=λr=>⟨.ready,none,gW l,n,ps,assign,body,r⟩
 let r:=w.h.next
 let w1:=w.new (.ig true)
 have s1:St B w0 (pt r (.ig true)::kl) F w1:=s.new _;let lo:=w1.h.next
 let w2:=w1.new (.loop (L r))
 have s2:St B w0 (pt lo (.loop (L r))::pt r (.ig true)::kl) F w2:=s1.new _;have s3:St B w0 ((pt lo (.loop (L r))::k1)++(pt r (.ig true)::bq)) F w2:=s2.jD (k:=pt lo (.loop (L r))::k1) (kl':=pt r (.ig true)::bq) (.cons .here (by
  have:∀{k kl bq:List OA} (A:OA),aI k kl bq->aI k (A::kl) (A::bq):=by
   intro k kl bq A h;induction h with
   |nil=>exact .nil
   |cons h1 _ ih=>exact .cons (.there h1) ih
  exact this _ hk))
 obtain⟨S,h1,h2,h3⟩:=s3.own;obtain⟨S1,S2,q1,q2,hp⟩:=h1.jD (k:=pt lo (.loop (L r))::k1) (kl':=pt r (.ig true)::bq) (by
  have:∀(k kr:List OA),aI k (k++kr) kr:=by
   intro k kr;induction k with
   |nil=>exact .nil
   |cons A k ih=>exact .cons .here ih
  exact this _ _)
 have hsub:∀i∈S1,i∈S:=λi hi=>hp.mem_iff.2 (jP _ hi);have st1:St S1 w2 (pt lo (.loop (L r))::k1) F1 w2:=⟨⟨bJ _,λ_ _ _=>rfl,λ_ _=>rfl⟩,Wd.Le.refl w2,λi _ hz=>.inl hz,⟨S1,q1,(iN.1 (hp.nodup h2)).1,λi hi=>⟨.inr hi,(h3 i (hsub i hi)).2⟩⟩,λf hf=>s2.facts f (hF.mem f hf)⟩
 have hc:=it lo r S1 w2 st1;refine .rangeFunc fn first captured (by rw[mU];exact hf) (act n l ({target:=.collected r,args:= #[]}::D) pm none) w1.h r (.inl ⟨rfl,rfl,rfl,rfl⟩) (Left S1 w2 H6 (λy=>pt lo (.loop (lK (L r) (out y)))::k1' y) fs pr) ?_ ?_ ?_
 ·rw[jl];exact hc
 ·rintro v pm' h' ⟨rfl,w',y,rfl,c,hv,hpr⟩;have sc:St B w0 ((pt lo (.loop (lK (L r) (out y)))::k1' y)++(pt r (.ig true)::bq)) (fs y++F) w':=s3.call (k1:=pt lo (.loop (L r))::k1) (F1:=F1) ⟨S,hp,h2,h3⟩ q2 c;have hg:=(show St B w0 (pt lo (.loop (lK (L r) (out y)))::(k1' y++(pt r (.ig true)::bq))) (fs y++F) w' from sc).get;refine⟨lK (L r) (out y),hg.1,?_,?_⟩
  ·cases out y<;>simp[lK]
  ·have e:(lK (L r) (out y)).pending.getD .normal=out y:=by cases out y<;>rfl
   rw[e];exact next r y hpr _ (St.write (o':=.loop {lK (L r) (out y)with state:=.exhausted}) sc).tail
 ·rintro ch pm' h' ⟨rfl,w',y,rfl,c,hv,hpr⟩;cases hv
end
end Go.Ideal
namespace Go.Ideal
variable {P:Program}
def gT{S α:Type}(step:S->α->S×Bool):S->List α->S
 |s,[]=>s
 |s,x::xs=>match step s x with
  |(s',true)=>gT step s' xs
  |(s',false)=>s'
def jr{S α:Type}(step:S->α->S×Out):S->List α->S×Out
 |s,[]=>(s,.normal)
 |s,x::xs=>match step s x with
  |(s',.normal)=>jr step s' xs
  |(s',o)=>(s',o)
theorem Sub.refl'{α:Type}:∀(l k:List α),Sub l (k++l)
 |[],_=>.nil
 |a::l,k=>.cons (mJ _ (cZ ..)) (by have:=Sub.refl' l (k++[a]);rwa [fE]at this)
theorem Sub.app{α:Type}:∀{k1 k2 l:List α},Sub k1 l->Sub k2 l->Sub (k1++k2) l
 |_,_,_,.nil,h=>h
 |_,_,_,.cons h h1,h2=>.cons h (h1.app h2)
section
variable {B:List Nat} {w0:Wd} {kl kl' bq:List OA} {F:List aH} {K:KO} {n:Nat} {l:List (Nat×Value)} {D:List Deferred} {pm:Option FrameMode} {ro:Option Nat}
theorem LH{S α:Type}{step:S->α->S×Out}:∀(xs:List α) (s:S),gT (λ(so:S×Out) x=>(step so.1 x,l9 (step so.1 x).2)) (s,Out.normal) xs=jr step s xs
 |[],s=>rfl
 |x::xs,s=>by
  have ih:=LH (step:=step) xs;simp only[gT,jr];cases h:step s x with
  |mk s' o=>
   cases o with
   |normal=>simp only[l9];exact ih s'
   |_=>simp only[l9]
end
end Go.Ideal
namespace Go.Ideal
variable {P:Program} {ρ:Operand->Value}
theorem wrapN{m:Nat}(h:m<9223372036854775808):IntKind.i64.wrap (m:Int)=m:=wrap64 (by omega) (by omega)
theorem LJ{x y:Operand}{t:TypeId}{a b:Nat}(hx:ρ x=.int .i64 (a:Int))(hy:ρ y=.int .i64 (b:Int))(hb:b<64)(hr:a<<<b<9223372036854775808):Pu P ρ (.bin .shl t x y) (.int .i64 ((a<<<b:Nat):Int)):=λh=>by
 simp only[aB.run,hx,hy];rw[ER (op:=.shl) (v:=.int .i64 ((a<<<b:Nat):Int)) rfl (by
  show dX P (Op.shift .shl .i64 a .i64 b)=_;unfold Op.shift;rw[if_neg (by omega)];show some (Value.int .i64 (IntKind.i64.wrap ((a:Int)*2^(min (b:Int).toNat 64))))=_;rw[show min (b:Int).toNat 64=b by simp;omega];rw[show((a:Int)*2^b)=((a<<<b:Nat):Int)by rw[Nat.shiftLeft_eq];simp,wrapN hr]) rfl]
theorem Q9{a:Nat}(h:a<9223372036854775808):(BitVec.ofInt 64 (a:Int)).toNat=a:=by
 simp[BitVec.toNat_ofInt];omega
theorem Ra{x y:Operand}{t:TypeId}{a b:Nat}(hx:ρ x=.int .i64 (a:Int))(hy:ρ y=.int .i64 (b:Int))(ha:a<9223372036854775808)(hb:b<9223372036854775808):Pu P ρ (.bin .or t x y) (.int .i64 ((a|||b:Nat):Int)):=λh=>by
 simp only[aB.run,hx,hy];rw[ER (op:=.or) (v:=.int .i64 ((a|||b:Nat):Int)) rfl (by
  show dX P (Op.intBits .or .i64 a b)=_;show some (Value.int .i64 (IntKind.i64.wrap ((BitVec.ofInt 64 (a:Int)|||BitVec.ofInt 64 (b:Int)).toNat:Int)))=_;have:a|||b<2^63:=Nat.or_lt_two_pow (by omega) (by omega);rw[BitVec.toNat_or,Q9 ha,Q9 hb,wrapN (by omega)]) rfl]
end Go.Ideal
namespace Go.Ideal
variable {P:Program}
def BL{X:Type}(f:X->List OA):OA:=⟨λw S=>∃x,fB w (f x) S,λa h ⟨x,hx⟩=>⟨x,fB.loc a h hx⟩⟩
theorem abd{ρ:Operand->Value}{x y:Operand}{a b:Int}(hx:ρ x=.int .i64 a)(hy:ρ y=.int .i64 b):Pu P ρ (.xq true [x,y]) (.int .i64 (max a b)):=λh=>by
 have e:jY ρ [x,y]=[.int .i64 a,.int .i64 b]:=by rw[rD];simp[hx,hy]
 simp only[aB.run,e,pI,cond];by_cases hb:b<=a
 ·rw[pU,dZ hb,Int.max_eq_left hb]
 ·have:leZ b a=false:=by rw[pU,aT hb]
  rw[this,Int.max_eq_right (by omega)]
theorem H7{ρ:Operand->Value}{x y:Operand}{a b:Int}(hx:ρ x=.int .i64 a)(hy:ρ y=.int .i64 b):Pu P ρ (.xq false [x,y]) (.int .i64 (min a b)):=λh=>by
 have e:jY ρ [x,y]=[.int .i64 a,.int .i64 b]:=by rw[rD];simp[hx,hy]
 simp only[aB.run,e,pI,cond];by_cases hb:a<=b
 ·rw[pU,dZ hb,Int.min_eq_left hb]
 ·have:leZ a b=false:=by rw[pU,aT hb]
  rw[this,Int.min_eq_right (by omega)]
section
variable {B:List Nat} {w0:Wd} {kl kl' bq:List OA} {F:List aH} {K:KO} {n:Nat} {l:List (Nat×Value)} {D:List Deferred} {pm:Option FrameMode} {ro:Option Nat}
theorem x8{X:Type}{f:X->List OA}{dM:X->List OA}{Q:IH->Prop}(hk:ay (BL f) kl kl':=by exact gD)(ha:∀x,bC (f x) kl' (dM x):=by intro x;repeat (first|exact bC.nil|apply bC.cons|exact bC.self|exact bC.app))(h:∀x,R Q B w0 (dM x) F):R Q B w0 kl F:=λw s=>by
 obtain⟨S,⟨S1,S2,⟨x,q1⟩,q2,e⟩,h2,h3⟩:=(s.fV hk).own;refine h x w ?_;rw[<- (ha x).eq];exact⟨s.agree,s.le,s.fH,⟨S,by rw[e];exact q1.app q2,h2,h3⟩,s.facts⟩
theorem uF{X:Type}(f:X->List OA)(x:X){Q:IH->Prop}(hk:aI (f x) kl bq:=by exact l8)(h:R Q B w0 (BL f::bq) F):R Q B w0 kl F:=λw s=>by
 obtain⟨S,h1,h2,h3⟩:=s.own;obtain⟨S1,S2,q1,q2,hp⟩:=h1.jD hk;exact h w ⟨s.agree,s.le,s.fH,⟨S1++S2,⟨S1,S2,⟨x,q1⟩,q2,rfl⟩,hp.nodup h2,λi hi=>h3 i (hp.mem_iff.2 hi)⟩,s.facts⟩
theorem eX{Q:IH->Prop}(g:aH)(hg:∀w:Wd,(∀f∈F,f.p w)->g.p w)(h:R Q B w0 kl (g::F)):R Q B w0 kl F:=λw s=>
 h w ⟨s.agree,s.le,s.fH,s.own,λf hf=>by
  rcases dF.1 hf with rfl|hf
  ·exact hg w s.facts
  ·exact s.facts f hf⟩
theorem Rb{α:Type}{E:Enc α}{w:Wd}{b f c:Nat}{v:Value}{xs:List α}(h1:(eG b 0 [v]).p w)(h2:(ah E v xs).p w)(hc:1<=c:=by first|exact bJ _|omega)(hf:f=0\/f=1:=by first|exact .inl rfl|exact .inr rfl):(ah (aj E) (.slice (some ⟨b,0,some f⟩) 1 c) [xs]).p w:=by
 obtain⟨cells,q1,q2⟩:=h1;refine .inr ⟨b,0,f,c,cells,⟨rfl,hc,hf⟩,q1,λk x hk=>?_⟩;match k,hk with
 |0,hk=>
  cases hk;refine⟨v,λj u hj=>?_,λg hg=>by rw[bH.1 hg];exact h2⟩;have:=q2 j u hj;simpa using this
theorem EU{Y:Type}{f:FuncId}{args cap:List Value}{kl:List OA}{F:List aH}{val:Y->Value}{kl':Y->List OA}{fs:Y->List aH}{pr:Y->Prop}{c:dx}{m:Nat}{l0:List (Nat×Value)}(cf:gN)(hF:(nN P pQ pR).F f=some cf)
 (hb:∀B w0,R (λh=>EV P c (act m l0 [] none none) h (pX P cf (Left B w0 val kl' fs pr))) B w0 kl F)
 (h1:cf.body=c:=by conv=>lhs;(reduce;(try simp only[Int.reduceOfNat,Int.reduceNegSucc]))) (h2:qz cf.ntmps (iE (args++cap))=m:=by conv=>lhs;whnf) (h3:oP 0 (args++cap) []=l0:=by dsimp only[oP,Nat.reduceAdd,List.append_nil,List.cons_append,List.nil_append]):bi P (.func f) args cap kl F val kl' fs pr:=
 aba cf hF hb h1 h2 h3
theorem BM{Y:Type}{o:Out}{cf:gN}{vs:List Value}{val:Y->Value}{k1:Y->List OA}{fs:Y->List aH}{pr:Y->Prop}{dM:List OA}(y:Y)(hD:jq kl D dM:=by repeat (first|exact jq.nil|(apply jq.cons;(focus (repeat (first|with_reducible exact ay.here|with_reducible apply ay.there|with_reducible apply ay.app))))))
 (hr:RS l dM cf.results vs:=by exact zJ) (hv:qH vs=val y) (hp:pr y)
 (hk:aI (k1 y) dM bq:=by exact l8) (hF:Sub (fs y) F:=by exact lJ)
 (ho:o=.normal\/o=.ret:=by first|exact .inl rfl|exact .inr rfl):R (λh=>pX P cf (Left B w0 val k1 fs pr) o (act n l D none ro) h) B w0 kl F:=
 Q6 y hD hr hv hp hk hF ho
theorem uG{Y:Type}{lo:Nat}{L:mZ}{out:Y->Out}{k1:Y->List OA}{fs:Y->List aH}{pr:Y->Prop}{o:Out}{dM:List OA}(y:Y)(ho:o=out y)(hn:zK o)(hp:pr y)
 (hk:aI (pt lo (.loop (uE L))::k1 y) kl dM:=by exact l8) (hF:Sub (fs y) F:=by exact lJ):
 R (λh=>zM B w0 lo L out k1 fs pr o (act n l [] none ro) h) B w0 kl F:=abb y ho hn hp hk hF
theorem fC{α:Type}(E:Enc α){ds:List Tmp}{rest:List bT}{d:Nat}{g:Option (Tmp×Bool)}{e:TypeId}{size bytes b':Nat}{s x:Operand}{v:Value}{xs:List α}(a:α)(y:E.Y){cs:List Value}{k1 k2:List OA}
 (hm:(xs.length+1)*bytes<=1073741824/\(xs.length+1)*size<=1073741824/\xs.length+1<=1073741824)
 (next:∀ad,R (λh=>aF P ds rest (act n ((d,.slice ad (xs.length+1) (xs.length+1))::l) D pm ro) h K) B w0 (ap E (.slice ad (xs.length+1) (xs.length+1)) (xs++[a])::k2) F)
 (hn:Nat.blt d n=true:=by rfl) (hg:bU l g=true:=by rfl)
 (hs:ev l s=v:=by conv=>lhs;whnf) (hx:ev l x=.slice (some ⟨b',0,some 0⟩) 1 1:=by rfl) (hk:ay (ap E v xs) kl k1:=by exact gD) (hc:ay (pt b' (.cells cs)) k1 k2:=by exact gD) (hp:cs=E.pat a y:=by rfl) (hF:Sub (E.fs a y) F:=by exact lJ) (hz:E.n=size:=by rfl):
 R (λh=>aF P ds (⟨⟨some d,g,.append e size bytes s x⟩,[]⟩::rest) (act n l D pm ro) h K) B w0 kl F:=
 (aaS hn hg hs hx hk hc hp hF hz hm).h λv' w st=>by
   obtain⟨S,⟨S1,S2,q,_⟩,_⟩:=st.own;obtain⟨ad,e⟩:=Lx q;rw[fA,uY]at e;subst e;exact next ad w st
section
variable {ds:List Tmp} {rest:List bT} {d:Nat} {g:Option (Tmp×Bool)}
theorem q_p{op:aB}{v:Value}(hp:Pu P (ev l) op v)(next:R (λh=>aF P ds rest (act n ((d,v)::l) D pm ro) h K) B w0 kl F)(hn:Nat.blt d n=true:=by rfl)(hg:bU l g=true:=by rfl):
 R (λh=>aF P ds (⟨⟨some d,g,op⟩,[]⟩::rest) (act n l D pm ro) h K) B w0 kl F:=(eD hn hg hp).h next
theorem abf{e:TypeId}{size bytes:Nat}{zero:List Value}{x y:Operand}(m:Nat)(hm:m*bytes<=1073741824/\m*size<=1073741824/\m<=1073741824)
 (next:∀b,R (λh=>aF P ds rest (act n ((d,.slice (some ⟨b,0,some 0⟩) m m)::l) D pm ro) h K) B w0 (pt b (.cells (zeros zero m))::kl) F)
 (hx:ev l x=.int .i64 (m:Int):=by rfl) (hy:ev l y=.int .i64 (m:Int):=by rfl) (hn:Nat.blt d n=true:=by rfl) (hg:bU l g=true:=by rfl):
 R (λh=>aF P ds (⟨⟨some d,g,.y9 e size bytes zero x y⟩,[]⟩::rest) (act n l D pm ro) h K) B w0 kl F:=(aaG hn hg hx hy hm).h next
theorem x9{x y:Operand}{b o:Nat}{cs cs':List Value}{v:Value}(hs:cs.set o v=cs')(ho:o<cs.length)
 (next:R (λh=>aF P ds rest (act n l D pm ro) h K) B w0 (pt b (.cells cs')::kl') F)
 (hx:ev l x=.pointer (some ⟨b,o,none⟩):=by rfl) (hy:ev l y=v:=by rfl) (hv:cellsOf v=some [v]:=by rfl) (hk:ay (pt b (.cells cs)) kl kl':=by exact gD) (hg:bU l g=true:=by rfl):
 R (λh=>aF P ds (⟨⟨none,g,.store 1 x y⟩,[]⟩::rest) (act n l D pm ro) h K) B w0 kl F:=by subst hs;exact(aaM hg hx hy hv hk ho).h next
theorem vW{x:Operand}{b o:Nat}{cs:List Value}(v:Value)(hv:cs[o]? =some v)
 (next:R (λh=>aF P ds rest (act n ((d,v)::l) D pm ro) h K) B w0 kl F)
 (hx:ev l x=.pointer (some ⟨b,o,none⟩):=by rfl) (hk:ay (pt b (.cells cs)) kl kl':=by exact gD) (hn:Nat.blt d n=true:=by rfl) (hg:bU l g=true:=by rfl):
 R (λh=>aF P ds (⟨⟨some d,g,.gK x⟩,[]⟩::rest) (act n l D pm ro) h K) B w0 kl F:=(aaN hn hg hx hk hv).h next
theorem abg{x i:Operand}{v:Value}{xs:List Int}(k:Nat)(z:Int){kk:IntKind}{d2:Nat}(hz:xs[k]? =some z)
 (next:∀b o,R (λh=>aF P ds rest (act n ((d2,.int .i64 z)::(d,.pointer (some ⟨b,o,none⟩))::l) D pm ro) h K) B w0 kl F)
 (hx:ev l x=v:=by conv=>lhs;whnf) (hi:ev l i=.int kk (k:Int):=by rfl) (hk:ay (ap aa v xs) kl kl':=by exact gD) (hn:Nat.blt d n=true:=by rfl) (hn2:Nat.blt d2 n=true:=by rfl):
 R (λh=>aF P ds (⟨⟨some d,none,.lY 1 x i⟩,[]⟩::⟨⟨some d2,none,.gK (.tmp d)⟩,[]⟩::rest) (act n l D pm ro) h K) B w0 kl F:=(aaT hn rfl hn2 (λ_=>rfl) hx hi hk hz).h next
end
end
