/-
  The ideal machine, 57: loops over functions, seen from all states of a kind; functions that leave collected ends behind.
-/
import Derived.Test.YtoohgkkmdnbnfaaGreatDoorIdealKE
set_option linter.all false
namespace Go.Ideal
variable {P:Program}
def nR(P:Program)(cf:fI)(K:KR):KO:=λo a h=>match qE o with
 |none=>False
 |some m=>LEAVE P cf a.tmps a.defers m h λr h''=>K r a.pm h''
theorem YA{Y:Type}{f:FuncId}{args cap:List Value}{kl:List OA}{F:List aB}{val:Y->Value}{kl':Y->List OA}{fs:Y->List aB}{pr:Y->Prop}{c:bK}{m:Nat}{l0:List (Nat×Value)}(cf:fI)(hF:(lK P nM nN).F f=some cf)
 (hb:∀B w0,R (λh=>EV P c (act m l0 [] none none) h (nR P cf (Left B w0 val kl' fs pr))) B w0 kl F)
 (h1:cf.body=c:=by conv=>lhs;(reduce;(try simp only[Int.reduceOfNat,Int.reduceNegSucc]))) (h2:oD cf.ntmps (gq (args++cap))=m:=by conv=>lhs;whnf) (h3:mZ 0 (args++cap) []=l0:=by dsimp only[mZ,Nat.reduceAdd,List.append_nil,List.cons_append,List.nil_append]):aV P (.func f) args cap kl F val kl' fs pr:=by
 intro B w s;obtain⟨fn,e1,e2⟩:=(vG P nM nN (λf q h v h' hm=>by cases hm)).fn f cf hF;refine Om cf fn e1 e2 ?_;rw[Ji,h1,h2,h3];exact hb B w w s
section
variable {B:List Nat} {w0:Wd} {kl kl' aR:List OA} {F:List aB} {K:KO} {n:Nat} {l:List (Nat×Value)} {D:List Deferred} {pm:Option FrameMode} {ro:Option Nat}
inductive iw:List OA->List Deferred->List OA->Prop
 |nil {kl:List OA}:iw kl [] kl
 |cons {kl kl' bX:List OA} {r:Nat} {args:Array Value} {D:List Deferred} (h:aj (pt r (.fU true)) kl kl') (t:iw kl' D bX):iw kl ({target:=.collected r,args}::D) bX
theorem iw.leave{cf:fI}{ts:T Value}{Kr:gB->IH->Prop}:∀{D:List Deferred} {kl bX:List OA},iw kl D bX->(∀w',St B w0 bX F w'->∃v,nL cf.results ts w'.h=some v/\Kr (.ok v) w'.h)->∀w,St B w0 kl F w->LEAVE P cf ts D .returning w.h Kr
 |_,_,_,.nil,hk,w,s=>by
  obtain⟨v,h1,h2⟩:=hk w s;exact .ret v h1 h2
 |_,_,_,.cons (r:=r) h t,hk,w,s=>by
  have s1:=s.fC h;refine .coll (by intro e;cases e) r s1.get.1 ?_;exact iw.leave t hk _ (s1.write (o':=.fU false)).tail
theorem PI{Y:Type}{o:Out}{cf:fI}{vs:List Value}{val:Y->Value}{k1:Y->List OA}{fs:Y->List aB}{pr:Y->Prop}{bX:List OA}(y:Y)(hD:iw kl D bX)(hr:RS l bX cf.results vs)(hv:oM vs=val y)(hp:pr y)(hk:aM (k1 y) bX aR)(hF:Sub (fs y) F)
 (ho:o=.normal\/o=.ret):R (λh=>nR P cf (Left B w0 val k1 fs pr) o (act n l D none ro) h) B w0 kl F:=by
 intro w s;have key:LEAVE P cf (fM l) D .returning w.h λr h''=>Left B w0 val k1 fs pr r none h'':=by
  refine iw.leave hD (λw' s'=>⟨val y,?_,rfl,w',y,rfl,((s'.iC hk).drop).sub hF,rfl,hp⟩) w s;unfold nL;rw[hr.all s',<- hv];match vs with
  |[]=>rfl
  |[v]=>rfl
  |_::_::_=>rfl
 rcases ho with rfl|rfl
 ·exact key
 ·exact key
def rZ(L:kX):kX:={L with state:=.busy}
def jW(L:kX)(o:Out):kX:=match o with
 | .normal=>{L with state:=.ready,pending:=none}
 |o=>{L with state:=.done,pending:=some o}
def kH(o:Out):Bool:=match o with
 | .normal=>true
 |_=>false
def xU(o:Out):Prop:=match o with
 | .panic _=>False
 |_=>True
def xV{Y:Type}(B:List Nat)(w0:Wd)(lo:Nat)(L:kX)(out:Y->Out)(k1:Y->List OA)(fs:Y->List aB)(pr:Y->Prop):KO:=λo a h=>
 a.defers=[]/\∃(w:Wd) (y:Y),w.h=h/\o=out y/\xU o/\St B w0 (pt lo (.loop (rZ L))::k1 y) (fs y) w/\pr y
theorem YB{Y:Type}{lo:Nat}{L:kX}{out:Y->Out}{k1:Y->List OA}{fs:Y->List aB}{pr:Y->Prop}{o:Out}{bX:List OA}(y:Y)(ho:o=out y)(hn:xU o)(hp:pr y)(hk:aM (pt lo (.loop (rZ L))::k1 y) kl bX)(hF:Sub (fs y) F):
 R (λh=>xV B w0 lo L out k1 fs pr o (act n l [] none ro) h) B w0 kl F:=λw s=>⟨rfl,w,y,rfl,ho,hn,((s.iC hk).drop).sub hF,hp⟩
theorem PK(n:Nat):∀(ps:List Tmp) (args:List Value) (l:List (Nat×Value)),ps.all (λp=>Nat.blt p n)=true->ps.length=args.length->∃l2,qF n ps args (fM l)=fM l2/\l2=(ps.zip args).reverse++l
 |[],[],l,_,_=>⟨l,rfl,rfl⟩
 |p::ps,v::args,l,h,e=>by
  simp only[Bl,fB]at h;obtain⟨l2,h1,h2⟩:=PK n ps args ((p,v)::l) h.2 (by simpa using e);refine⟨l2,?_,by rw[h2];simp⟩;rw[<- h1];show qF n ps args (cond (Nat.blt p n) ((fM l).set p (some v)) (fM l))=_;rw[h.1];rfl
theorem PL{Y:Type}{f:Operand}{ps:List Tmp}{assign body:bK}{fn:Fn}{first captured:List Value}{k1:List OA}{F1:List aB}{ER:Y->Value}{out:Y->Out}{k1':Y->List OA}{fs:Y->List aB}{pr:Y->Prop}
 (hf:ev l f=.func fn ⟨first⟩ ⟨captured⟩)
 (it:∀lo r,aV P fn (first++[.func (.yield lo) #[] #[]]) captured (pt lo (.loop ⟨.ready,none,fM l,n,ps,assign,body,r⟩)::k1) F1 ER (λy=>pt lo (.loop (jW ⟨.ready,none,fM l,n,ps,assign,body,r⟩ (out y)))::k1' y) fs pr)
 (hk:aM k1 kl aR) (hF:Sub F1 F)
 (next:∀r y,pr y->R (λh=>K (out y) (act n l ({target:=.collected r,args:= #[]}::D) pm none) h) B w0 (k1' y++(pt r (.fU true)::aR)) (fs y++F)):
 R (λh=>EV P (.rangeFunc f ps assign body) (act n l D pm none) h K) B w0 kl F:=by
 intro w s;let L:Nat->kX:=λr=>⟨.ready,none,fM l,n,ps,assign,body,r⟩
 let r:=w.h.next
 let w1:=w.new (.fU true)
 have s1:St B w0 (pt r (.fU true)::kl) F w1:=s.new _;let lo:=w1.h.next
 let w2:=w1.new (.loop (L r))
 have s2:St B w0 (pt lo (.loop (L r))::pt r (.fU true)::kl) F w2:=s1.new _;have s3:St B w0 ((pt lo (.loop (L r))::k1)++(pt r (.fU true)::aR)) F w2:=s2.iC (k:=pt lo (.loop (L r))::k1) (kl':=pt r (.fU true)::aR) (.cons .here (by
  have:∀{k kl aR:List OA} (A:OA),aM k kl aR->aM k (A::kl) (A::aR):=by
   intro k kl aR A h;induction h with
   |nil=>exact .nil
   |cons h1 _ ih=>exact .cons (.there h1) ih
  exact this _ hk))
 obtain⟨S,h1,h2,h3⟩:=s3.own;obtain⟨S1,S2,q1,q2,hp⟩:=h1.iC (k:=pt lo (.loop (L r))::k1) (kl':=pt r (.fU true)::aR) (by
  have:∀(k kr:List OA),aM k (k++kr) kr:=by
   intro k kr;induction k with
   |nil=>exact .nil
   |cons A k ih=>exact .cons .here ih
  exact this _ _)
 have hsub:∀i∈S1,i∈S:=λi hi=>hp.mem_iff.2 (jO _ hi);have st1:St S1 w2 (pt lo (.loop (L r))::k1) F1 w2:=⟨⟨bn _,λ_ _ _=>rfl,λ_ _=>rfl⟩,Wd.Le.refl w2,λi _ hz=>.inl hz,⟨S1,q1,(gM.1 (hp.nodup h2)).1,λi hi=>⟨.inr hi,(h3 i (hsub i hi)).2⟩⟩,λf hf=>s2.facts f (hF.mem f hf)⟩
 have hc:=it lo r S1 w2 st1;refine .rangeFunc fn first captured (by rw[kQ];exact hf) (act n l ({target:=.collected r,args:= #[]}::D) pm none) w1.h r (.inl ⟨rfl,rfl,rfl,rfl⟩) (Left S1 w2 ER (λy=>pt lo (.loop (jW (L r) (out y)))::k1' y) fs pr) ?_ ?_ ?_
 ·rw[ig];exact hc
 ·rintro v pm' h' ⟨rfl,w',y,rfl,c,hv,hpr⟩;have sc:St B w0 ((pt lo (.loop (jW (L r) (out y)))::k1' y)++(pt r (.fU true)::aR)) (fs y++F) w':=s3.call (k1:=pt lo (.loop (L r))::k1) (F1:=F1) ⟨S,hp,h2,h3⟩ q2 c;have hg:=(show St B w0 (pt lo (.loop (jW (L r) (out y)))::(k1' y++(pt r (.fU true)::aR))) (fs y++F) w' from sc).get;refine⟨jW (L r) (out y),hg.1,?_,?_⟩
  ·cases out y<;>simp[jW]
  ·have e:(jW (L r) (out y)).pending.getD .normal=out y:=by cases out y<;>rfl
   rw[e];exact next r y hpr _ (St.write (o':=.loop {jW (L r) (out y)with state:=.exhausted}) sc).tail
 ·rintro ch pm' h' ⟨rfl,w',y,rfl,c,hv,hpr⟩;cases hv
end
end Go.Ideal
namespace Go.Ideal
variable {P:Program}
def fF{S α:Type}(step:S->α->S×Bool):S->List α->S
 |s,[]=>s
 |s,x::xs=>match step s x with
  |(s',true)=>fF step s' xs
  |(s',false)=>s'
def iy{S α:Type}(step:S->α->S×Out):S->List α->S×Out
 |s,[]=>(s,.normal)
 |s,x::xs=>match step s x with
  |(s',.normal)=>iy step s' xs
  |(s',o)=>(s',o)
theorem Sub.refl'{α:Type}:∀(l k:List α),Sub l (k++l)
 |[],_=>.nil
 |a::l,k=>.cons (pE _ (bF ..)) (by have:=Sub.refl' l (k++[a]);rwa [dQ]at this)
theorem Sub.app{α:Type}:∀{k1 k2 l:List α},Sub k1 l->Sub k2 l->Sub (k1++k2) l
 |_,_,_,.nil,h=>h
 |_,_,_,.cons h h1,h2=>.cons h (h1.app h2)
section
variable {B:List Nat} {w0:Wd} {kl kl' aR:List OA} {F:List aB} {K:KO} {n:Nat} {l:List (Nat×Value)} {D:List Deferred} {pm:Option FrameMode} {ro:Option Nat}
theorem Jk{S α:Type}{step:S->α->S×Out}:∀(xs:List α) (s:S),fF (λ(so:S×Out) x=>(step so.1 x,kH (step so.1 x).2)) (s,Out.normal) xs=iy step s xs
 |[],s=>rfl
 |x::xs,s=>by
  have ih:=Jk (step:=step) xs;simp only[fF,iy];cases h:step s x with
  |mk s' o=>
   cases o with
   |normal=>simp only[kH];exact ih s'
   |_=>simp only[kH]
end
end Go.Ideal
namespace Go.Ideal
variable {P:Program} {ρ:Operand->Value}
theorem wrapN{m:Nat}(h:m<9223372036854775808):IntKind.i64.wrap (m:Int)=m:=wrap64 (by omega) (by omega)
theorem qa{x y:Operand}{t:TypeId}{a b:Nat}(hx:ρ x=.int .i64 (a:Int))(hy:ρ y=.int .i64 (b:Int))(hb:b<64)(hr:a<<<b<9223372036854775808):Pu P ρ (.bin .shl t x y) (.int .i64 ((a<<<b:Nat):Int)):=λh=>by
 simp only[aA.run,hx,hy];rw[CF (op:=.shl) (v:=.int .i64 ((a<<<b:Nat):Int)) rfl (by
  show dx P (Op.shift .shl .i64 a .i64 b)=_;unfold Op.shift;rw[if_neg (by omega)];show some (Value.int .i64 (IntKind.i64.wrap ((a:Int)*2^(min (b:Int).toNat 64))))=_;rw[show min (b:Int).toNat 64=b by simp;omega];rw[show((a:Int)*2^b)=((a<<<b:Nat):Int)by rw[Gw];simp,wrapN hr]) rfl]
theorem PM{a:Nat}(h:a<9223372036854775808):(BitVec.ofInt 64 (a:Int)).toNat=a:=by
 simp[BitVec.toNat_ofInt];omega
theorem YC{x y:Operand}{t:TypeId}{a b:Nat}(hx:ρ x=.int .i64 (a:Int))(hy:ρ y=.int .i64 (b:Int))(ha:a<9223372036854775808)(hb:b<9223372036854775808):Pu P ρ (.bin .or t x y) (.int .i64 ((a|||b:Nat):Int)):=λh=>by
 simp only[aA.run,hx,hy];rw[CF (op:=.or) (v:=.int .i64 ((a|||b:Nat):Int)) rfl (by
  show dx P (Op.intBits .or .i64 a b)=_;show some (Value.int .i64 (IntKind.i64.wrap ((BitVec.ofInt 64 (a:Int)|||BitVec.ofInt 64 (b:Int)).toNat:Int)))=_;have:a|||b<2^63:=Nat.or_lt_two_pow (by omega) (by omega);rw[BitVec.toNat_or,PM ha,PM hb,wrapN (by omega)]) rfl]
end Go.Ideal
namespace Go.Ideal
variable {P:Program}
def Ak{X:Type}(f:X->List OA):OA:=⟨λw S=>∃x,dK w (f x) S,λa h ⟨x,hx⟩=>⟨x,dK.loc a h hx⟩⟩
theorem YD{ρ:Operand->Value}{x y:Operand}{a b:Int}(hx:ρ x=.int .i64 a)(hy:ρ y=.int .i64 b):Pu P ρ (.uU true [x,y]) (.int .i64 (max a b)):=λh=>by
 have e:je ρ [x,y]=[.int .i64 a,.int .i64 b]:=by rw[pM];simp[hx,hy]
 simp only[aA.run,e,pJ,cond];by_cases hb:b<=a
 ·rw[nO,dU hb,Int.max_eq_left hb]
 ·have:leZ b a=false:=by rw[nO,cO hb]
  rw[this,Int.max_eq_right (by omega)]
theorem ES{ρ:Operand->Value}{x y:Operand}{a b:Int}(hx:ρ x=.int .i64 a)(hy:ρ y=.int .i64 b):Pu P ρ (.uU false [x,y]) (.int .i64 (min a b)):=λh=>by
 have e:je ρ [x,y]=[.int .i64 a,.int .i64 b]:=by rw[pM];simp[hx,hy]
 simp only[aA.run,e,pJ,cond];by_cases hb:a<=b
 ·rw[nO,dU hb,Int.min_eq_left hb]
 ·have:leZ a b=false:=by rw[nO,cO hb]
  rw[this,Int.min_eq_right (by omega)]
section
variable {B:List Nat} {w0:Wd} {kl kl' aR:List OA} {F:List aB} {K:KO} {n:Nat} {l:List (Nat×Value)} {D:List Deferred} {pm:Option FrameMode} {ro:Option Nat}
theorem vV{X:Type}{f:X->List OA}{bX:X->List OA}{Q:IH->Prop}(hk:aj (Ak f) kl kl':=by exact fE)(ha:∀x,aT (f x) kl' (bX x):=by intro x;repeat (first|exact aT.nil|apply aT.cons|exact aT.self|exact aT.app))(h:∀x,R Q B w0 (bX x) F):R Q B w0 kl F:=λw s=>by
 obtain⟨S,⟨S1,S2,⟨x,q1⟩,q2,e⟩,h2,h3⟩:=(s.fC hk).own;refine h x w ?_;rw[<- (ha x).eq];exact⟨s.agree,s.le,s.dR,⟨S,by rw[e];exact q1.app q2,h2,h3⟩,s.facts⟩
theorem r9{X:Type}(f:X->List OA)(x:X){Q:IH->Prop}(hk:aM (f x) kl aR:=by exact kG)(h:R Q B w0 (Ak f::aR) F):R Q B w0 kl F:=λw s=>by
 obtain⟨S,h1,h2,h3⟩:=s.own;obtain⟨S1,S2,q1,q2,hp⟩:=h1.iC hk;exact h w ⟨s.agree,s.le,s.dR,⟨S1++S2,⟨S1,S2,⟨x,q1⟩,q2,rfl⟩,hp.nodup h2,λi hi=>h3 i (hp.mem_iff.2 hi)⟩,s.facts⟩
theorem iD{Q:IH->Prop}(g:aB)(hg:∀w:Wd,(∀f∈F,f.p w)->g.p w)(h:R Q B w0 kl (g::F)):R Q B w0 kl F:=λw s=>
 h w ⟨s.agree,s.le,s.dR,s.own,λf hf=>by
  rcases cK.1 hf with rfl|hf
  ·exact hg w s.facts
  ·exact s.facts f hf⟩
theorem YE{α:Type}{E:Enc α}{w:Wd}{b f c:Nat}{v:Value}{xs:List α}(h1:(dF b 0 [v]).p w)(h2:(ai E v xs).p w)(hc:1<=c:=by first|exact bn _|omega)(hf:f=0\/f=1:=by first|exact .inl rfl|exact .inr rfl):(ai (aC E) (.slice (some ⟨b,0,some f⟩) 1 c) [xs]).p w:=by
 obtain⟨cells,q1,q2⟩:=h1;refine .inr ⟨b,0,f,c,cells,⟨rfl,hc,hf⟩,q1,λk x hk=>?_⟩;match k,hk with
 |0,hk=>
  cases hk;refine⟨v,λj u hj=>?_,λg hg=>by rw[bC.1 hg];exact h2⟩;have:=q2 j u hj;simpa using this
theorem CG{Y:Type}{f:FuncId}{args cap:List Value}{kl:List OA}{F:List aB}{val:Y->Value}{kl':Y->List OA}{fs:Y->List aB}{pr:Y->Prop}{c:bK}{m:Nat}{l0:List (Nat×Value)}(cf:fI)(hF:(lK P nM nN).F f=some cf)
 (hb:∀B w0,R (λh=>EV P c (act m l0 [] none none) h (nR P cf (Left B w0 val kl' fs pr))) B w0 kl F)
 (h1:cf.body=c:=by conv=>lhs;(reduce;(try simp only[Int.reduceOfNat,Int.reduceNegSucc]))) (h2:oD cf.ntmps (gq (args++cap))=m:=by conv=>lhs;whnf) (h3:mZ 0 (args++cap) []=l0:=by dsimp only[mZ,Nat.reduceAdd,List.append_nil,List.cons_append,List.nil_append]):aV P (.func f) args cap kl F val kl' fs pr:=
 YA cf hF hb h1 h2 h3
theorem Al{Y:Type}{o:Out}{cf:fI}{vs:List Value}{val:Y->Value}{k1:Y->List OA}{fs:Y->List aB}{pr:Y->Prop}{bX:List OA}(y:Y)(hD:iw kl D bX:=by repeat (first|exact iw.nil|(apply iw.cons;(focus (repeat (first|with_reducible exact aj.here|with_reducible apply aj.there|with_reducible apply aj.app))))))
 (hr:RS l bX cf.results vs:=by exact xS) (hv:oM vs=val y) (hp:pr y)
 (hk:aM (k1 y) bX aR:=by exact kG) (hF:Sub (fs y) F:=by exact jV)
 (ho:o=.normal\/o=.ret:=by first|exact .inl rfl|exact .inr rfl):R (λh=>nR P cf (Left B w0 val k1 fs pr) o (act n l D none ro) h) B w0 kl F:=
 PI y hD hr hv hp hk hF ho
theorem si{Y:Type}{lo:Nat}{L:kX}{out:Y->Out}{k1:Y->List OA}{fs:Y->List aB}{pr:Y->Prop}{o:Out}{bX:List OA}(y:Y)(ho:o=out y)(hn:xU o)(hp:pr y)
 (hk:aM (pt lo (.loop (rZ L))::k1 y) kl bX:=by exact kG) (hF:Sub (fs y) F:=by exact jV):
 R (λh=>xV B w0 lo L out k1 fs pr o (act n l [] none ro) h) B w0 kl F:=YB y ho hn hp hk hF
theorem kR{α:Type}(E:Enc α){ds:List Tmp}{rest:List bz}{d:Nat}{g:Option (Tmp×Bool)}{e:TypeId}{size bytes b':Nat}{s x:Operand}{v:Value}{xs:List α}(a:α)(y:E.Y){cs:List Value}{k1 k2:List OA}
 (hm:(xs.length+1)*bytes<=1073741824/\(xs.length+1)*size<=1073741824/\xs.length+1<=1073741824)
 (next:∀ad,R (λh=>aD P ds rest (act n ((d,.slice ad (xs.length+1) (xs.length+1))::l) D pm ro) h K) B w0 (ap E (.slice ad (xs.length+1) (xs.length+1)) (xs++[a])::k2) F)
 (hn:Nat.blt d n=true:=by rfl) (hg:bE l g=true:=by rfl)
 (hs:ev l s=v:=by conv=>lhs;whnf) (hx:ev l x=.slice (some ⟨b',0,some 0⟩) 1 1:=by rfl) (hk:aj (ap E v xs) kl k1:=by exact fE) (hc:aj (pt b' (.cells cs)) k1 k2:=by exact fE) (hp:cs=E.pat a y:=by rfl) (hF:Sub (E.fs a y) F:=by exact jV) (hz:E.n=size:=by rfl):
 R (λh=>aD P ds (⟨⟨some d,g,.append e size bytes s x⟩,[]⟩::rest) (act n l D pm ro) h K) B w0 kl F:=
 (Yq hn hg hs hx hk hc hp hF hz hm).h λv' w st=>by
   obtain⟨S,⟨S1,S2,q,_⟩,_⟩:=st.own;obtain⟨ad,e⟩:=Je q;rw[fK,uR]at e;subst e;exact next ad w st
section
variable {ds:List Tmp} {rest:List bz} {d:Nat} {g:Option (Tmp×Bool)}
theorem qV{op:aA}{v:Value}(hp:Pu P (ev l) op v)(next:R (λh=>aD P ds rest (act n ((d,v)::l) D pm ro) h K) B w0 kl F)(hn:Nat.blt d n=true:=by rfl)(hg:bE l g=true:=by rfl):
 R (λh=>aD P ds (⟨⟨some d,g,op⟩,[]⟩::rest) (act n l D pm ro) h K) B w0 kl F:=(fP hn hg hp).h next
theorem YF{e:TypeId}{size bytes:Nat}{zero:List Value}{x y:Operand}(m:Nat)(hm:m*bytes<=1073741824/\m*size<=1073741824/\m<=1073741824)
 (next:∀b,R (λh=>aD P ds rest (act n ((d,.slice (some ⟨b,0,some 0⟩) m m)::l) D pm ro) h K) B w0 (pt b (.cells (zeros zero m))::kl) F)
 (hx:ev l x=.int .i64 (m:Int):=by rfl) (hy:ev l y=.int .i64 (m:Int):=by rfl) (hn:Nat.blt d n=true:=by rfl) (hg:bE l g=true:=by rfl):
 R (λh=>aD P ds (⟨⟨some d,g,.wV e size bytes zero x y⟩,[]⟩::rest) (act n l D pm ro) h K) B w0 kl F:=(Yk hn hg hx hy hm).h next
theorem sj{x y:Operand}{b o:Nat}{cs cs':List Value}{v:Value}(hs:cs.set o v=cs')(ho:o<cs.length)
 (next:R (λh=>aD P ds rest (act n l D pm ro) h K) B w0 (pt b (.cells cs')::kl') F)
 (hx:ev l x=.pointer (some ⟨b,o,none⟩):=by rfl) (hy:ev l y=v:=by rfl) (hv:cellsOf v=some [v]:=by rfl) (hk:aj (pt b (.cells cs)) kl kl':=by exact fE) (hg:bE l g=true:=by rfl):
 R (λh=>aD P ds (⟨⟨none,g,.store 1 x y⟩,[]⟩::rest) (act n l D pm ro) h K) B w0 kl F:=by subst hs;exact(Ym hg hx hy hv hk ho).h next
theorem su{x:Operand}{b o:Nat}{cs:List Value}(v:Value)(hv:cs[o]? =some v)
 (next:R (λh=>aD P ds rest (act n ((d,v)::l) D pm ro) h K) B w0 kl F)
 (hx:ev l x=.pointer (some ⟨b,o,none⟩):=by rfl) (hk:aj (pt b (.cells cs)) kl kl':=by exact fE) (hn:Nat.blt d n=true:=by rfl) (hg:bE l g=true:=by rfl):
 R (λh=>aD P ds (⟨⟨some d,g,.fH x⟩,[]⟩::rest) (act n l D pm ro) h K) B w0 kl F:=(Yn hn hg hx hk hv).h next
end
end
