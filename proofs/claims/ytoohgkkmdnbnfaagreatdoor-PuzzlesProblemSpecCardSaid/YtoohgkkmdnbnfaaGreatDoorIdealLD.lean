/-
  The ideal machine, 57: loops over functions, seen from all states of a kind; functions that leave collected ends behind.
-/
import Derived.Test.YtoohgkkmdnbnfaaGreatDoorIdealKD
set_option linter.all false
namespace Go.Ideal
variable {P:Program}
def pO(P:Program)(cf:gP)(K:KR):KO:=λo a h=>match sw o with
 |none=>False
 |some m=>LEAVE P cf a.tmps a.defers m h λr h''=>K r a.pm h''
theorem aaM{Y:Type}{f:FuncId}{args cap:List Value}{kl:List OA}{F:List aF}{val:Y->Value}{kl':Y->List OA}{fs:Y->List aF}{pr:Y->Prop}{c:dm}{m:Nat}{l0:List (Nat×Value)}(cf:gP)(hF:(nE P pG pI).F f=some cf)
 (hb:∀B w0,R (λh=>EV P c (act m l0 [] none none) h (pO P cf (Left B w0 val kl' fs pr))) B w0 kl F)
 (h1:cf.body=c:=by conv=>lhs;(reduce;(try simp only[Int.reduceOfNat,Int.reduceNegSucc]))) (h2:ql cf.ntmps (iF (args++cap))=m:=by conv=>lhs;whnf) (h3:oI 0 (args++cap) []=l0:=by dsimp only[oI,Nat.reduceAdd,List.append_nil,List.cons_append,List.nil_append]):bn P (.func f) args cap kl F val kl' fs pr:=by
 intro B w s;obtain⟨fn,e1,e2⟩:=(xD P pG pI (λf q h v h' hm=>by cases hm)).fn f cf hF;refine Qt cf fn e1 e2 ?_;rw[Lr,h1,h2,h3];exact hb B w w s
section
variable {B:List Nat} {w0:Wd} {kl kl' bB:List OA} {F:List aF} {K:KO} {n:Nat} {l:List (Nat×Value)} {D:List Deferred} {pm:Option FrameMode} {ro:Option Nat}
inductive jh:List OA->List Deferred->List OA->Prop
 |nil {kl:List OA}:jh kl [] kl
 |cons {kl kl' dL:List OA} {r:Nat} {args:Array Value} {D:List Deferred} (h:az (pt r (.iq true)) kl kl') (t:jh kl' D dL):jh kl ({target:=.collected r,args}::D) dL
theorem jh.leave{cf:gP}{ts:T Value}{Kr:iK->IH->Prop}:∀{D:List Deferred} {kl dL:List OA},jh kl D dL->(∀w',St B w0 dL F w'->∃v,pF cf.results ts w'.h=some v/\Kr (.ok v) w'.h)->∀w,St B w0 kl F w->LEAVE P cf ts D .returning w.h Kr
 |_,_,_,.nil,hk,w,s=>by
  obtain⟨v,h1,h2⟩:=hk w s;exact .ret v h1 h2
 |_,_,_,.cons (r:=r) h t,hk,w,s=>by
  have s1:=s.gI h;refine .coll (by intro e;cases e) r s1.get.1 ?_;exact jh.leave t hk _ (s1.write (o':=.iq false)).tail
theorem QV{Y:Type}{o:Out}{cf:gP}{vs:List Value}{val:Y->Value}{k1:Y->List OA}{fs:Y->List aF}{pr:Y->Prop}{dL:List OA}(y:Y)(hD:jh kl D dL)(hr:RS l dL cf.results vs)(hv:qA vs=val y)(hp:pr y)(hk:aG (k1 y) dL bB)(hF:Sub (fs y) F)
 (ho:o=.normal\/o=.ret):R (λh=>pO P cf (Left B w0 val k1 fs pr) o (act n l D none ro) h) B w0 kl F:=by
 intro w s;have key:LEAVE P cf (gU l) D .returning w.h λr h''=>Left B w0 val k1 fs pr r none h'':=by
  refine jh.leave hD (λw' s'=>⟨val y,?_,rfl,w',y,rfl,((s'.jy hk).drop).sub hF,rfl,hp⟩) w s;unfold pF;rw[hr.all s',<- hv];match vs with
  |[]=>rfl
  |[v]=>rfl
  |_::_::_=>rfl
 rcases ho with rfl|rfl
 ·exact key
 ·exact key
def uy(L:mU):mU:={L with state:=.busy}
def lC(L:mU)(o:Out):mU:=match o with
 | .normal=>{L with state:=.ready,pending:=none}
 |o=>{L with state:=.done,pending:=some o}
def lW(o:Out):Bool:=match o with
 | .normal=>true
 |_=>false
def zx(o:Out):Prop:=match o with
 | .panic _=>False
 |_=>True
def zy{Y:Type}(B:List Nat)(w0:Wd)(lo:Nat)(L:mU)(out:Y->Out)(k1:Y->List OA)(fs:Y->List aF)(pr:Y->Prop):KO:=λo a h=>
 a.defers=[]/\∃(w:Wd) (y:Y),w.h=h/\o=out y/\zx o/\St B w0 (pt lo (.loop (uy L))::k1 y) (fs y) w/\pr y
theorem aaN{Y:Type}{lo:Nat}{L:mU}{out:Y->Out}{k1:Y->List OA}{fs:Y->List aF}{pr:Y->Prop}{o:Out}{dL:List OA}(y:Y)(ho:o=out y)(hn:zx o)(hp:pr y)(hk:aG (pt lo (.loop (uy L))::k1 y) kl dL)(hF:Sub (fs y) F):
 R (λh=>zy B w0 lo L out k1 fs pr o (act n l [] none ro) h) B w0 kl F:=λw s=>⟨rfl,w,y,rfl,ho,hn,((s.jy hk).drop).sub hF,hp⟩
theorem QW(n:Nat):∀(ps:List Tmp) (args:List Value) (l:List (Nat×Value)),ps.all (λp=>Nat.blt p n)=true->ps.length=args.length->∃l2,sD n ps args (gU l)=gU l2/\l2=(ps.zip args).reverse++l
 |[],[],l,_,_=>⟨l,rfl,rfl⟩
 |p::ps,v::args,l,h,e=>by
  simp only[Ct,gJ]at h;obtain⟨l2,h1,h2⟩:=QW n ps args ((p,v)::l) h.2 (by simpa using e);refine⟨l2,?_,by rw[h2];simp⟩;rw[<- h1];show sD n ps args (cond (Nat.blt p n) ((gU l).set p (some v)) (gU l))=_;rw[h.1];rfl
theorem QX{Y:Type}{f:Operand}{ps:List Tmp}{assign body:dm}{fn:Fn}{first captured:List Value}{k1:List OA}{F1:List aF}{Hg:Y->Value}{out:Y->Out}{k1':Y->List OA}{fs:Y->List aF}{pr:Y->Prop}
 (hf:ev l f=.func fn ⟨first⟩ ⟨captured⟩)
 (it:∀lo r,bn P fn (first++[.func (.yield lo) #[] #[]]) captured (pt lo (.loop ⟨.ready,none,gU l,n,ps,assign,body,r⟩)::k1) F1 Hg (λy=>pt lo (.loop (lC ⟨.ready,none,gU l,n,ps,assign,body,r⟩ (out y)))::k1' y) fs pr)
 (hk:aG k1 kl bB) (hF:Sub F1 F)
 (next:∀r y,pr y->R (λh=>K (out y) (act n l ({target:=.collected r,args:= #[]}::D) pm none) h) B w0 (k1' y++(pt r (.iq true)::bB)) (fs y++F)):
 R (λh=>EV P (.rangeFunc f ps assign body) (act n l D pm none) h K) B w0 kl F:=by
 intro w s;let L:Nat->mU:=λr=>⟨.ready,none,gU l,n,ps,assign,body,r⟩
 let r:=w.h.next
 let w1:=w.new (.iq true)
 have s1:St B w0 (pt r (.iq true)::kl) F w1:=s.new _;let lo:=w1.h.next
 let w2:=w1.new (.loop (L r))
 have s2:St B w0 (pt lo (.loop (L r))::pt r (.iq true)::kl) F w2:=s1.new _;have s3:St B w0 ((pt lo (.loop (L r))::k1)++(pt r (.iq true)::bB)) F w2:=s2.jy (k:=pt lo (.loop (L r))::k1) (kl':=pt r (.iq true)::bB) (.cons .here (by
  have:∀{k kl bB:List OA} (A:OA),aG k kl bB->aG k (A::kl) (A::bB):=by
   intro k kl bB A h;induction h with
   |nil=>exact .nil
   |cons h1 _ ih=>exact .cons (.there h1) ih
  exact this _ hk))
 obtain⟨S,h1,h2,h3⟩:=s3.own;obtain⟨S1,S2,q1,q2,hp⟩:=h1.jy (k:=pt lo (.loop (L r))::k1) (kl':=pt r (.iq true)::bB) (by
  have:∀(k kr:List OA),aG k (k++kr) kr:=by
   intro k kr;induction k with
   |nil=>exact .nil
   |cons A k ih=>exact .cons .here ih
  exact this _ _)
 have hsub:∀i∈S1,i∈S:=λi hi=>hp.mem_iff.2 (kF _ hi);have st1:St S1 w2 (pt lo (.loop (L r))::k1) F1 w2:=⟨⟨bQ _,λ_ _ _=>rfl,λ_ _=>rfl⟩,Wd.Le.refl w2,λi _ hz=>.inl hz,⟨S1,q1,(iP.1 (hp.nodup h2)).1,λi hi=>⟨.inr hi,(h3 i (hsub i hi)).2⟩⟩,λf hf=>s2.facts f (hF.mem f hf)⟩
 have hc:=it lo r S1 w2 st1;refine .rangeFunc fn first captured (by rw[mI];exact hf) (act n l ({target:=.collected r,args:= #[]}::D) pm none) w1.h r (.inl ⟨rfl,rfl,rfl,rfl⟩) (Left S1 w2 Hg (λy=>pt lo (.loop (lC (L r) (out y)))::k1' y) fs pr) ?_ ?_ ?_
 ·rw[je];exact hc
 ·rintro v pm' h' ⟨rfl,w',y,rfl,c,hv,hpr⟩;have sc:St B w0 ((pt lo (.loop (lC (L r) (out y)))::k1' y)++(pt r (.iq true)::bB)) (fs y++F) w':=s3.call (k1:=pt lo (.loop (L r))::k1) (F1:=F1) ⟨S,hp,h2,h3⟩ q2 c;have hg:=(show St B w0 (pt lo (.loop (lC (L r) (out y)))::(k1' y++(pt r (.iq true)::bB))) (fs y++F) w' from sc).get;refine⟨lC (L r) (out y),hg.1,?_,?_⟩
  ·cases out y<;>simp[lC]
  ·have e:(lC (L r) (out y)).pending.getD .normal=out y:=by cases out y<;>rfl
   rw[e];exact next r y hpr _ (St.write (o':=.loop {lC (L r) (out y)with state:=.exhausted}) sc).tail
 ·rintro ch pm' h' ⟨rfl,w',y,rfl,c,hv,hpr⟩;cases hv
end
end Go.Ideal
namespace Go.Ideal
variable {P:Program}
def gQ{S α:Type}(step:S->α->S×Bool):S->List α->S
 |s,[]=>s
 |s,x::xs=>match step s x with
  |(s',true)=>gQ step s' xs
  |(s',false)=>s'
def ji{S α:Type}(step:S->α->S×Out):S->List α->S×Out
 |s,[]=>(s,.normal)
 |s,x::xs=>match step s x with
  |(s',.normal)=>ji step s' xs
  |(s',o)=>(s',o)
theorem Sub.refl'{α:Type}:∀(l k:List α),Sub l (k++l)
 |[],_=>.nil
 |a::l,k=>.cons (o9 _ (dM ..)) (by have:=Sub.refl' l (k++[a]);rwa [fB]at this)
theorem Sub.app{α:Type}:∀{k1 k2 l:List α},Sub k1 l->Sub k2 l->Sub (k1++k2) l
 |_,_,_,.nil,h=>h
 |_,_,_,.cons h h1,h2=>.cons h (h1.app h2)
section
variable {B:List Nat} {w0:Wd} {kl kl' bB:List OA} {F:List aF} {K:KO} {n:Nat} {l:List (Nat×Value)} {D:List Deferred} {pm:Option FrameMode} {ro:Option Nat}
theorem Lt{S α:Type}{step:S->α->S×Out}:∀(xs:List α) (s:S),gQ (λ(so:S×Out) x=>(step so.1 x,lW (step so.1 x).2)) (s,Out.normal) xs=ji step s xs
 |[],s=>rfl
 |x::xs,s=>by
  have ih:=Lt (step:=step) xs;simp only[gQ,ji];cases h:step s x with
  |mk s' o=>
   cases o with
   |normal=>simp only[lW];exact ih s'
   |_=>simp only[lW]
end
end Go.Ideal
namespace Go.Ideal
variable {P:Program} {ρ:Operand->Value}
theorem wrapN{m:Nat}(h:m<9223372036854775808):IntKind.i64.wrap (m:Int)=m:=wrap64 (by omega) (by omega)
theorem Hl{x y:Operand}{t:TypeId}{a b:Nat}(hx:ρ x=.int .i64 (a:Int))(hy:ρ y=.int .i64 (b:Int))(hb:b<64)(hr:a<<<b<9223372036854775808):Pu P ρ (.bin .shl t x y) (.int .i64 ((a<<<b:Nat):Int)):=λh=>by
 simp only[aC.run,hx,hy];rw[DR (op:=.shl) (v:=.int .i64 ((a<<<b:Nat):Int)) rfl (by
  show dX P (Op.shift .shl .i64 a .i64 b)=_;unfold Op.shift;rw[if_neg (by omega)];show some (Value.int .i64 (IntKind.i64.wrap ((a:Int)*2^(min (b:Int).toNat 64))))=_;rw[show min (b:Int).toNat 64=b by simp;omega];rw[show((a:Int)*2^b)=((a<<<b:Nat):Int)by rw[Nat.shiftLeft_eq];simp,wrapN hr]) rfl]
theorem QY{a:Nat}(h:a<9223372036854775808):(BitVec.ofInt 64 (a:Int)).toNat=a:=by
 simp[BitVec.toNat_ofInt];omega
theorem QZ{x y:Operand}{t:TypeId}{a b:Nat}(hx:ρ x=.int .i64 (a:Int))(hy:ρ y=.int .i64 (b:Int))(ha:a<9223372036854775808)(hb:b<9223372036854775808):Pu P ρ (.bin .or t x y) (.int .i64 ((a|||b:Nat):Int)):=λh=>by
 simp only[aC.run,hx,hy];rw[DR (op:=.or) (v:=.int .i64 ((a|||b:Nat):Int)) rfl (by
  show dX P (Op.intBits .or .i64 a b)=_;show some (Value.int .i64 (IntKind.i64.wrap ((BitVec.ofInt 64 (a:Int)|||BitVec.ofInt 64 (b:Int)).toNat:Int)))=_;have:a|||b<2^63:=Nat.or_lt_two_pow (by omega) (by omega);rw[BitVec.toNat_or,QY ha,QY hb,wrapN (by omega)]) rfl]
end Go.Ideal
namespace Go.Ideal
variable {P:Program}
def Bq{X:Type}(f:X->List OA):OA:=⟨λw S=>∃x,fo w (f x) S,λa h ⟨x,hx⟩=>⟨x,fo.loc a h hx⟩⟩
theorem Q0{ρ:Operand->Value}{x y:Operand}{a b:Int}(hx:ρ x=.int .i64 a)(hy:ρ y=.int .i64 b):Pu P ρ (.wW true [x,y]) (.int .i64 (max a b)):=λh=>by
 have e:jV ρ [x,y]=[.int .i64 a,.int .i64 b]:=by rw[qX];simp[hx,hy]
 simp only[aC.run,e,qV,cond];by_cases hb:b<=a
 ·rw[pJ,dS hb,Int.max_eq_left hb]
 ·have:leZ b a=false:=by rw[pJ,aU hb]
  rw[this,Int.max_eq_right (by omega)]
theorem Ho{ρ:Operand->Value}{x y:Operand}{a b:Int}(hx:ρ x=.int .i64 a)(hy:ρ y=.int .i64 b):Pu P ρ (.wW false [x,y]) (.int .i64 (min a b)):=λh=>by
 have e:jV ρ [x,y]=[.int .i64 a,.int .i64 b]:=by rw[qX];simp[hx,hy]
 simp only[aC.run,e,qV,cond];by_cases hb:a<=b
 ·rw[pJ,dS hb,Int.min_eq_left hb]
 ·have:leZ a b=false:=by rw[pJ,aU hb]
  rw[this,Int.min_eq_right (by omega)]
section
variable {B:List Nat} {w0:Wd} {kl kl' bB:List OA} {F:List aF} {K:KO} {n:Nat} {l:List (Nat×Value)} {D:List Deferred} {pm:Option FrameMode} {ro:Option Nat}
theorem xR{X:Type}{f:X->List OA}{dL:X->List OA}{Q:IH->Prop}(hk:az (Bq f) kl kl':=by exact gK)(ha:∀x,bD (f x) kl' (dL x):=by intro x;repeat (first|exact bD.nil|apply bD.cons|exact bD.self|exact bD.app))(h:∀x,R Q B w0 (dL x) F):R Q B w0 kl F:=λw s=>by
 obtain⟨S,⟨S1,S2,⟨x,q1⟩,q2,e⟩,h2,h3⟩:=(s.gI hk).own;refine h x w ?_;rw[<- (ha x).eq];exact⟨s.agree,s.le,s.fI,⟨S,by rw[e];exact q1.app q2,h2,h3⟩,s.facts⟩
theorem uz{X:Type}(f:X->List OA)(x:X){Q:IH->Prop}(hk:aG (f x) kl bB:=by exact lV)(h:R Q B w0 (Bq f::bB) F):R Q B w0 kl F:=λw s=>by
 obtain⟨S,h1,h2,h3⟩:=s.own;obtain⟨S1,S2,q1,q2,hp⟩:=h1.jy hk;exact h w ⟨s.agree,s.le,s.fI,⟨S1++S2,⟨S1,S2,⟨x,q1⟩,q2,rfl⟩,hp.nodup h2,λi hi=>h3 i (hp.mem_iff.2 hi)⟩,s.facts⟩
theorem eT{Q:IH->Prop}(g:aF)(hg:∀w:Wd,(∀f∈F,f.p w)->g.p w)(h:R Q B w0 kl (g::F)):R Q B w0 kl F:=λw s=>
 h w ⟨s.agree,s.le,s.fI,s.own,λf hf=>by
  rcases dH.1 hf with rfl|hf
  ·exact hg w s.facts
  ·exact s.facts f hf⟩
theorem Q3{α:Type}{E:Enc α}{w:Wd}{b f c:Nat}{v:Value}{xs:List α}(h1:(eH b 0 [v]).p w)(h2:(ah E v xs).p w)(hc:1<=c:=by first|exact bQ _|omega)(hf:f=0\/f=1:=by first|exact .inl rfl|exact .inr rfl):(ah (aj E) (.slice (some ⟨b,0,some f⟩) 1 c) [xs]).p w:=by
 obtain⟨cells,q1,q2⟩:=h1;refine .inr ⟨b,0,f,c,cells,⟨rfl,hc,hf⟩,q1,λk x hk=>?_⟩;match k,hk with
 |0,hk=>
  cases hk;refine⟨v,λj u hj=>?_,λg hg=>by rw[bI.1 hg];exact h2⟩;have:=q2 j u hj;simpa using this
theorem DZ{Y:Type}{f:FuncId}{args cap:List Value}{kl:List OA}{F:List aF}{val:Y->Value}{kl':Y->List OA}{fs:Y->List aF}{pr:Y->Prop}{c:dm}{m:Nat}{l0:List (Nat×Value)}(cf:gP)(hF:(nE P pG pI).F f=some cf)
 (hb:∀B w0,R (λh=>EV P c (act m l0 [] none none) h (pO P cf (Left B w0 val kl' fs pr))) B w0 kl F)
 (h1:cf.body=c:=by conv=>lhs;(reduce;(try simp only[Int.reduceOfNat,Int.reduceNegSucc]))) (h2:ql cf.ntmps (iF (args++cap))=m:=by conv=>lhs;whnf) (h3:oI 0 (args++cap) []=l0:=by dsimp only[oI,Nat.reduceAdd,List.append_nil,List.cons_append,List.nil_append]):bn P (.func f) args cap kl F val kl' fs pr:=
 aaM cf hF hb h1 h2 h3
theorem Br{Y:Type}{o:Out}{cf:gP}{vs:List Value}{val:Y->Value}{k1:Y->List OA}{fs:Y->List aF}{pr:Y->Prop}{dL:List OA}(y:Y)(hD:jh kl D dL:=by repeat (first|exact jh.nil|(apply jh.cons;(focus (repeat (first|with_reducible exact az.here|with_reducible apply az.there|with_reducible apply az.app))))))
 (hr:RS l dL cf.results vs:=by exact zw) (hv:qA vs=val y) (hp:pr y)
 (hk:aG (k1 y) dL bB:=by exact lV) (hF:Sub (fs y) F:=by exact lu)
 (ho:o=.normal\/o=.ret:=by first|exact .inl rfl|exact .inr rfl):R (λh=>pO P cf (Left B w0 val k1 fs pr) o (act n l D none ro) h) B w0 kl F:=
 QV y hD hr hv hp hk hF ho
theorem uA{Y:Type}{lo:Nat}{L:mU}{out:Y->Out}{k1:Y->List OA}{fs:Y->List aF}{pr:Y->Prop}{o:Out}{dL:List OA}(y:Y)(ho:o=out y)(hn:zx o)(hp:pr y)
 (hk:aG (pt lo (.loop (uy L))::k1 y) kl dL:=by exact lV) (hF:Sub (fs y) F:=by exact lu):
 R (λh=>zy B w0 lo L out k1 fs pr o (act n l [] none ro) h) B w0 kl F:=aaN y ho hn hp hk hF
theorem eO{α:Type}(E:Enc α){ds:List Tmp}{rest:List bT}{d:Nat}{g:Option (Tmp×Bool)}{e:TypeId}{size bytes b':Nat}{s x:Operand}{v:Value}{xs:List α}(a:α)(y:E.Y){cs:List Value}{k1 k2:List OA}
 (hm:(xs.length+1)*bytes<=1073741824/\(xs.length+1)*size<=1073741824/\xs.length+1<=1073741824)
 (next:∀ad,R (λh=>aD P ds rest (act n ((d,.slice ad (xs.length+1) (xs.length+1))::l) D pm ro) h K) B w0 (ap E (.slice ad (xs.length+1) (xs.length+1)) (xs++[a])::k2) F)
 (hn:Nat.blt d n=true:=by rfl) (hg:bX l g=true:=by rfl)
 (hs:ev l s=v:=by conv=>lhs;whnf) (hx:ev l x=.slice (some ⟨b',0,some 0⟩) 1 1:=by rfl) (hk:az (ap E v xs) kl k1:=by exact gK) (hc:az (pt b' (.cells cs)) k1 k2:=by exact gK) (hp:cs=E.pat a y:=by rfl) (hF:Sub (E.fs a y) F:=by exact lu) (hz:E.n=size:=by rfl):
 R (λh=>aD P ds (⟨⟨some d,g,.append e size bytes s x⟩,[]⟩::rest) (act n l D pm ro) h K) B w0 kl F:=
 (aau hn hg hs hx hk hc hp hF hz hm).h λv' w st=>by
   obtain⟨S,⟨S1,S2,q,_⟩,_⟩:=st.own;obtain⟨ad,e⟩:=Ll q;rw[gH,uU]at e;subst e;exact next ad w st
section
variable {ds:List Tmp} {rest:List bT} {d:Nat} {g:Option (Tmp×Bool)}
theorem Q4{op:aC}{v:Value}(hp:Pu P (ev l) op v)(next:R (λh=>aD P ds rest (act n ((d,v)::l) D pm ro) h K) B w0 kl F)(hn:Nat.blt d n=true:=by rfl)(hg:bX l g=true:=by rfl):
 R (λh=>aD P ds (⟨⟨some d,g,op⟩,[]⟩::rest) (act n l D pm ro) h K) B w0 kl F:=(fJ hn hg hp).h next
theorem aaO{e:TypeId}{size bytes:Nat}{zero:List Value}{x y:Operand}(m:Nat)(hm:m*bytes<=1073741824/\m*size<=1073741824/\m<=1073741824)
 (next:∀b,R (λh=>aD P ds rest (act n ((d,.slice (some ⟨b,0,some 0⟩) m m)::l) D pm ro) h K) B w0 (pt b (.cells (zeros zero m))::kl) F)
 (hx:ev l x=.int .i64 (m:Int):=by rfl) (hy:ev l y=.int .i64 (m:Int):=by rfl) (hn:Nat.blt d n=true:=by rfl) (hg:bX l g=true:=by rfl):
 R (λh=>aD P ds (⟨⟨some d,g,.yS e size bytes zero x y⟩,[]⟩::rest) (act n l D pm ro) h K) B w0 kl F:=(aai hn hg hx hy hm).h next
theorem xS{x y:Operand}{b o:Nat}{cs cs':List Value}{v:Value}(hs:cs.set o v=cs')(ho:o<cs.length)
 (next:R (λh=>aD P ds rest (act n l D pm ro) h K) B w0 (pt b (.cells cs')::kl') F)
 (hx:ev l x=.pointer (some ⟨b,o,none⟩):=by rfl) (hy:ev l y=v:=by rfl) (hv:cellsOf v=some [v]:=by rfl) (hk:az (pt b (.cells cs)) kl kl':=by exact gK) (hg:bX l g=true:=by rfl):
 R (λh=>aD P ds (⟨⟨none,g,.store 1 x y⟩,[]⟩::rest) (act n l D pm ro) h K) B w0 kl F:=by subst hs;exact(aao hg hx hy hv hk ho).h next
theorem vT{x:Operand}{b o:Nat}{cs:List Value}(v:Value)(hv:cs[o]? =some v)
 (next:R (λh=>aD P ds rest (act n ((d,v)::l) D pm ro) h K) B w0 kl F)
 (hx:ev l x=.pointer (some ⟨b,o,none⟩):=by rfl) (hk:az (pt b (.cells cs)) kl kl':=by exact gK) (hn:Nat.blt d n=true:=by rfl) (hg:bX l g=true:=by rfl):
 R (λh=>aD P ds (⟨⟨some d,g,.gM x⟩,[]⟩::rest) (act n l D pm ro) h K) B w0 kl F:=(aap hn hg hx hk hv).h next
theorem aaP{x i:Operand}{v:Value}{xs:List Int}(k:Nat)(z:Int){kk:IntKind}{d2:Nat}(hz:xs[k]? =some z)
 (next:∀b o,R (λh=>aD P ds rest (act n ((d2,.int .i64 z)::(d,.pointer (some ⟨b,o,none⟩))::l) D pm ro) h K) B w0 kl F)
 (hx:ev l x=v:=by conv=>lhs;whnf) (hi:ev l i=.int kk (k:Int):=by rfl) (hk:az (ap aa v xs) kl kl':=by exact gK) (hn:Nat.blt d n=true:=by rfl) (hn2:Nat.blt d2 n=true:=by rfl):
 R (λh=>aD P ds (⟨⟨some d,none,.mR 1 x i⟩,[]⟩::⟨⟨some d2,none,.gM (.tmp d)⟩,[]⟩::rest) (act n l D pm ro) h K) B w0 kl F:=(aav hn rfl hn2 (λ_=>rfl) hx hi hk hz).h next
end
end
