/-
  The ideal machine, 57: loops over functions, seen from all states of a kind; functions that leave collected ends behind.
-/
import Derived.Test.YtbdaaopebgcnaaaGreatDoorIdealKM
set_option linter.all false
namespace Go.Ideal
variable {P:Program}
def qM(P:Program)(cf:dW)(K:KR):KO:=λo a h=>match rR o with
 |none=>False
 |some m=>LEAVE P cf a.tmps a.defers m h λr h''=>K r a.pm h''
theorem YL{Y:Type}{f:FuncId}{args cap:List Value}{kl:List OA}{F:List aB}{val:Y->Value}{kl':Y->List OA}{fs:Y->List aB}{pr:Y->Prop}{c:bG}{m:Nat}{l0:List (Nat×Value)}(cf:dW)(hF:(oz P nJ oZ).F f=some cf)
 (hb:∀B w0,R (λh=>EV P c (act m l0 [] none none) h (qM P cf (Left B w0 val kl' fs pr))) B w0 kl F)
 (h1:cf.body=c:=by conv=>lhs;(reduce;(try simp only[Int.reduceOfNat,Int.reduceNegSucc]))) (h2:oq cf.ntmps (fZ (args++cap))=m:=by conv=>lhs;whnf) (h3:mQ 0 (args++cap) []=l0:=by dsimp only[mQ,Nat.reduceAdd,List.append_nil,List.cons_append,List.nil_append]):aT P (.func f) args cap kl F val kl' fs pr:=by
 intro B w s;obtain⟨fn,e1,e2⟩:=(Bd P nJ oZ (λf q h v h' hm=>by cases hm)).fn f cf hF;refine NG cf fn e1 e2 ?_;rw[I5,h1,h2,h3];exact hb B w w s
section
variable {B:List Nat} {w0:Wd} {kl kl' aW:List OA} {F:List aB} {K:KO} {n:Nat} {l:List (Nat×Value)} {D:List Deferred} {pm:Option FrameMode} {ro:Option Nat}
inductive j5:List OA->List Deferred->List OA->Prop
 |nil {kl:List OA}:j5 kl [] kl
 |cons {kl kl' eu:List OA} {r:Nat} {args:Array Value} {D:List Deferred} (h:ah (pt r (.fO true)) kl kl') (t:j5 kl' D eu):j5 kl ({target:=.collected r,args}::D) eu
theorem j5.leave{cf:dW}{ts:T Value}{Kr:gJ->IH->Prop}:∀{D:List Deferred} {kl eu:List OA},j5 kl D eu->(∀w',St B w0 eu F w'->∃v,nH cf.results ts w'.h=some v/\Kr (.ok v) w'.h)->∀w,St B w0 kl F w->LEAVE P cf ts D .returning w.h Kr
 |_,_,_,.nil,hk,w,s=>by
  obtain⟨v,h1,h2⟩:=hk w s;exact .ret v h1 h2
 |_,_,_,.cons (r:=r) h t,hk,w,s=>by
  have s1:=s.eT h;refine .coll (by intro e;cases e) r s1.get.1 ?_;exact j5.leave t hk _ (s1.write (o':=.fO false)).tail
theorem YM{Y:Type}{o:Out}{cf:dW}{vs:List Value}{val:Y->Value}{k1:Y->List OA}{fs:Y->List aB}{pr:Y->Prop}{eu:List OA}(y:Y)(hD:j5 kl D eu)(hr:RS l eu cf.results vs)(hv:pQ vs=val y)(hp:pr y)(hk:aL (k1 y) eu aW)(hF:Sub (fs y) F)
 (ho:o=.normal\/o=.ret):R (λh=>qM P cf (Left B w0 val k1 fs pr) o (act n l D none ro) h) B w0 kl F:=by
 intro w s;have key:LEAVE P cf (fu l) D .returning w.h λr h''=>Left B w0 val k1 fs pr r none h'':=by
  refine j5.leave hD (λw' s'=>⟨val y,?_,rfl,w',y,rfl,((s'.jb hk).drop).sub hF,rfl,hp⟩) w s;unfold nH;rw[hr.all s',<- hv];match vs with
  |[]=>rfl
  |[v]=>rfl
  |_::_::_=>rfl
 rcases ho with rfl|rfl
 ·exact key
 ·exact key
def rY(L:kD):kD:={L with state:=.busy}
def jI(L:kD)(o:Out):kD:=match o with
 | .normal=>{L with state:=.ready,pending:=none}
 |o=>{L with state:=.done,pending:=some o}
def jQ(o:Out):Bool:=match o with
 | .normal=>true
 |_=>false
def wY(o:Out):Prop:=match o with
 | .panic _=>False
 |_=>True
def wZ{Y:Type}(B:List Nat)(w0:Wd)(lo:Nat)(L:kD)(out:Y->Out)(k1:Y->List OA)(fs:Y->List aB)(pr:Y->Prop):KO:=λo a h=>
 a.defers=[]/\∃(w:Wd) (y:Y),w.h=h/\o=out y/\wY o/\St B w0 (pt lo (.loop (rY L))::k1 y) (fs y) w/\pr y
theorem YN{Y:Type}{lo:Nat}{L:kD}{out:Y->Out}{k1:Y->List OA}{fs:Y->List aB}{pr:Y->Prop}{o:Out}{eu:List OA}(y:Y)(ho:o=out y)(hn:wY o)(hp:pr y)(hk:aL (pt lo (.loop (rY L))::k1 y) kl eu)(hF:Sub (fs y) F):
 R (λh=>wZ B w0 lo L out k1 fs pr o (act n l [] none ro) h) B w0 kl F:=λw s=>⟨rfl,w,y,rfl,ho,hn,((s.jb hk).drop).sub hF,hp⟩
theorem Oh(n:Nat):∀(ps:List Tmp) (args:List Value) (l:List (Nat×Value)),ps.all (λp=>Nat.blt p n)=true->ps.length=args.length->∃l2,qo n ps args (fu l)=fu l2/\l2=(ps.zip args).reverse++l
 |[],[],l,_,_=>⟨l,rfl,rfl⟩
 |p::ps,v::args,l,h,e=>by
  simp only[wu,fo]at h;obtain⟨l2,h1,h2⟩:=Oh n ps args ((p,v)::l) h.2 (by simpa using e);refine⟨l2,?_,by rw[h2];simp⟩;rw[<- h1];show qo n ps args (cond (Nat.blt p n) ((fu l).set p (some v)) (fu l))=_;rw[h.1];rfl
theorem Oi{Y:Type}{f:Operand}{ps:List Tmp}{assign body:bG}{fn:Fn}{first captured:List Value}{k1:List OA}{F1:List aB}{Ew:Y->Value}{out:Y->Out}{k1':Y->List OA}{fs:Y->List aB}{pr:Y->Prop}
 (hf:ev l f=.func fn ⟨first⟩ ⟨captured⟩)
 (it:∀lo r,aT P fn (first++[.func (.yield lo) #[] #[]]) captured (pt lo (.loop ⟨.ready,none,fu l,n,ps,assign,body,r⟩)::k1) F1 Ew (λy=>pt lo (.loop (jI ⟨.ready,none,fu l,n,ps,assign,body,r⟩ (out y)))::k1' y) fs pr)
 (hk:aL k1 kl aW) (hF:Sub F1 F)
 (next:∀r y,pr y->R (λh=>K (out y) (act n l ({target:=.collected r,args:= #[]}::D) pm none) h) B w0 (k1' y++(pt r (.fO true)::aW)) (fs y++F)):
 R (λh=>EV P (.rangeFunc f ps assign body) (act n l D pm none) h K) B w0 kl F:=by
 intro w s;let L:Nat->kD:=λr=>⟨.ready,none,fu l,n,ps,assign,body,r⟩
 let r:=w.h.next
 let w1:=w.new (.fO true)
 have s1:St B w0 (pt r (.fO true)::kl) F w1:=s.new _;let lo:=w1.h.next
 let w2:=w1.new (.loop (L r))
 have s2:St B w0 (pt lo (.loop (L r))::pt r (.fO true)::kl) F w2:=s1.new _;have s3:St B w0 ((pt lo (.loop (L r))::k1)++(pt r (.fO true)::aW)) F w2:=s2.jb (k:=pt lo (.loop (L r))::k1) (kl':=pt r (.fO true)::aW) (.cons .here (by
  have:∀{k kl aW:List OA} (A:OA),aL k kl aW->aL k (A::kl) (A::aW):=by
   intro k kl aW A h;induction h with
   |nil=>exact .nil
   |cons h1 _ ih=>exact .cons (.there h1) ih
  exact this _ hk))
 obtain⟨S,h1,h2,h3⟩:=s3.own;obtain⟨S1,S2,q1,q2,hp⟩:=h1.jb (k:=pt lo (.loop (L r))::k1) (kl':=pt r (.fO true)::aW) (by
  have:∀(k kr:List OA),aL k (k++kr) kr:=by
   intro k kr;induction k with
   |nil=>exact .nil
   |cons A k ih=>exact .cons .here ih
  exact this _ _)
 have hsub:∀i∈S1,i∈S:=λi hi=>hp.mem_iff.2 (mD _ hi);have st1:St S1 w2 (pt lo (.loop (L r))::k1) F1 w2:=⟨⟨aC _,λ_ _ _=>rfl,λ_ _=>rfl⟩,Wd.Le.refl w2,λi _ hz=>.inl hz,⟨S1,q1,(qh.1 (hp.nodup h2)).1,λi hi=>⟨.inr hi,(h3 i (hsub i hi)).2⟩⟩,λf hf=>s2.facts f (hF.mem f hf)⟩
 have hc:=it lo r S1 w2 st1;refine .rangeFunc fn first captured (by rw[jH];exact hf) (act n l ({target:=.collected r,args:= #[]}::D) pm none) w1.h r (.inl ⟨rfl,rfl,rfl,rfl⟩) (Left S1 w2 Ew (λy=>pt lo (.loop (jI (L r) (out y)))::k1' y) fs pr) ?_ ?_ ?_
 ·rw[gK];exact hc
 ·rintro v pm' h' ⟨rfl,w',y,rfl,c,hv,hpr⟩;have sc:St B w0 ((pt lo (.loop (jI (L r) (out y)))::k1' y)++(pt r (.fO true)::aW)) (fs y++F) w':=s3.call (k1:=pt lo (.loop (L r))::k1) (F1:=F1) ⟨S,hp,h2,h3⟩ q2 c;have hg:=(show St B w0 (pt lo (.loop (jI (L r) (out y)))::(k1' y++(pt r (.fO true)::aW))) (fs y++F) w' from sc).get;refine⟨jI (L r) (out y),hg.1,?_,?_⟩
  ·cases out y<;>simp[jI]
  ·have e:(jI (L r) (out y)).pending.getD .normal=out y:=by cases out y<;>rfl
   rw[e];exact next r y hpr _ (St.write (o':=.loop {jI (L r) (out y)with state:=.exhausted}) sc).tail
 ·rintro ch pm' h' ⟨rfl,w',y,rfl,c,hv,hpr⟩;cases hv
end
end Go.Ideal
namespace Go.Ideal
variable {P:Program}
def fF{S α:Type}(step:S->α->S×Bool):S->List α->S
 |s,[]=>s
 |s,x::xs=>match step s x with
  |(s',true)=>fF step s' xs
  |(s',false)=>s'
def gQ{S α:Type}(step:S->α->S×Out):S->List α->S×Out
 |s,[]=>(s,.normal)
 |s,x::xs=>match step s x with
  |(s',.normal)=>gQ step s' xs
  |(s',o)=>(s',o)
theorem Sub.refl'{α:Type}:∀(l k:List α),Sub l (k++l)
 |[],_=>.nil
 |a::l,k=>.cons (nC _ (aS ..)) (by have:=Sub.refl' l (k++[a]);rwa [gY]at this)
theorem Sub.app{α:Type}:∀{k1 k2 l:List α},Sub k1 l->Sub k2 l->Sub (k1++k2) l
 |_,_,_,.nil,h=>h
 |_,_,_,.cons h h1,h2=>.cons h (h1.app h2)
section
variable {B:List Nat} {w0:Wd} {kl kl' aW:List OA} {F:List aB} {K:KO} {n:Nat} {l:List (Nat×Value)} {D:List Deferred} {pm:Option FrameMode} {ro:Option Nat}
theorem I7{S α:Type}{step:S->α->S×Out}:∀(xs:List α) (s:S),fF (λ(so:S×Out) x=>(step so.1 x,jQ (step so.1 x).2)) (s,Out.normal) xs=gQ step s xs
 |[],s=>rfl
 |x::xs,s=>by
  have ih:=I7 (step:=step) xs;simp only[fF,gQ];cases h:step s x with
  |mk s' o=>
   cases o with
   |normal=>simp only[jQ];exact ih s'
   |_=>simp only[jQ]
end
end Go.Ideal
namespace Go.Ideal
variable {P:Program} {ρ:Operand->Value}
theorem wrapN{m:Nat}(h:m<9223372036854775808):IntKind.i64.wrap (m:Int)=m:=wrap64 (by omega) (by omega)
theorem Bq{x y:Operand}{t:TypeId}{a b:Nat}(hx:ρ x=.int .i64 (a:Int))(hy:ρ y=.int .i64 (b:Int))(hb:b<64):Pu P ρ (.bin .shr t x y) (.int .i64 ((a>>>b:Nat):Int)):=λh=>by
 simp only[ai.run,hx,hy];rw[yU (op:=.shr) (v:=.int .i64 ((a>>>b:Nat):Int)) rfl (by
  show dh P (Op.shift .shr .i64 a .i64 b)=_;unfold Op.shift;rw[if_neg (by omega)];show some (Value.int .i64 ((a:Int).fdiv (2^(min (b:Int).toNat 64))))=_;rw[show min (b:Int).toNat 64=b by simp;omega,Nat.shiftRight_eq_div_pow];congr 2;rw[show((2:Int)^b)=((2^b:Nat):Int)by simp,Int.fdiv_eq_ediv_of_nonneg _ (Int.natCast_nonneg _)];simp) rfl]
theorem Oj{x y:Operand}{t:TypeId}{a b:Nat}(hx:ρ x=.int .i64 (a:Int))(hy:ρ y=.int .i64 (b:Int))(hb:b<64)(hr:a<<<b<9223372036854775808):Pu P ρ (.bin .shl t x y) (.int .i64 ((a<<<b:Nat):Int)):=λh=>by
 simp only[ai.run,hx,hy];rw[yU (op:=.shl) (v:=.int .i64 ((a<<<b:Nat):Int)) rfl (by
  show dh P (Op.shift .shl .i64 a .i64 b)=_;unfold Op.shift;rw[if_neg (by omega)];show some (Value.int .i64 (IntKind.i64.wrap ((a:Int)*2^(min (b:Int).toNat 64))))=_;rw[show min (b:Int).toNat 64=b by simp;omega];rw[show((a:Int)*2^b)=((a<<<b:Nat):Int)by rw[Nat.shiftLeft_eq];simp,wrapN hr]) rfl]
theorem Ol{a:Nat}(h:a<9223372036854775808):(BitVec.ofInt 64 (a:Int)).toNat=a:=by
 simp[BitVec.toNat_ofInt];omega
theorem Br{x y:Operand}{t:TypeId}{a b:Nat}(hx:ρ x=.int .i64 (a:Int))(hy:ρ y=.int .i64 (b:Int))(ha:a<9223372036854775808)(hb:b<9223372036854775808):Pu P ρ (.bin .and t x y) (.int .i64 ((a&&&b:Nat):Int)):=λh=>by
 simp only[ai.run,hx,hy];rw[yU (op:=.and) (v:=.int .i64 ((a&&&b:Nat):Int)) rfl (by
  show dh P (Op.intBits .and .i64 a b)=_;show some (Value.int .i64 (IntKind.i64.wrap ((BitVec.ofInt 64 (a:Int)&&&BitVec.ofInt 64 (b:Int)).toNat:Int)))=_;rw[BitVec.toNat_and,Ol ha,Ol hb,wrapN (zU Nat.and_le_left ha)]) rfl]
end Go.Ideal
namespace Go.Ideal
variable {P:Program}
def I8{X:Type}(f:X->List OA):OA:=⟨λw S=>∃x,gD w (f x) S,λa h ⟨x,hx⟩=>⟨x,gD.loc a h hx⟩⟩
theorem vC{ρ:Operand->Value}{x y:Operand}{a b:Int}(hx:ρ x=.int .i64 a)(hy:ρ y=.int .i64 b):Pu P ρ (.uI true [x,y]) (.int .i64 (max a b)):=λh=>by
 have e:jh ρ [x,y]=[.int .i64 a,.int .i64 b]:=by rw[qp];simp[hx,hy]
 simp only[ai.run,e,oV,cond];by_cases hb:b<=a
 ·rw[nK,fK hb,Int.max_eq_left hb]
 ·have:leZ b a=false:=by rw[nK,gq hb]
  rw[this,Int.max_eq_right (by omega)]
theorem w9{ρ:Operand->Value}{x y:Operand}{a b:Int}(hx:ρ x=.int .i64 a)(hy:ρ y=.int .i64 b):Pu P ρ (.uI false [x,y]) (.int .i64 (min a b)):=λh=>by
 have e:jh ρ [x,y]=[.int .i64 a,.int .i64 b]:=by rw[qp];simp[hx,hy]
 simp only[ai.run,e,oV,cond];by_cases hb:a<=b
 ·rw[nK,fK hb,Int.min_eq_left hb]
 ·have:leZ a b=false:=by rw[nK,gq hb]
  rw[this,Int.min_eq_right (by omega)]
section
variable {B:List Nat} {w0:Wd} {kl kl' aW:List OA} {F:List aB} {K:KO} {n:Nat} {l:List (Nat×Value)} {D:List Deferred} {pm:Option FrameMode} {ro:Option Nat}
theorem Om{X:Type}{f:X->List OA}{eu:X->List OA}{Q:IH->Prop}(hk:ah (I8 f) kl kl':=by exact gp)(ha:∀x,bO (f x) kl' (eu x):=by intro x;repeat (first|exact bO.nil|apply bO.cons|exact bO.self|exact bO.app))(h:∀x,R Q B w0 (eu x) F):R Q B w0 kl F:=λw s=>by
 obtain⟨S,⟨S1,S2,⟨x,q1⟩,q2,e⟩,h2,h3⟩:=(s.eT hk).own;refine h x w ?_;rw[<- (ha x).eq];exact⟨s.agree,s.le,s.eG,⟨S,by rw[e];exact q1.app q2,h2,h3⟩,s.facts⟩
theorem Oo{X:Type}(f:X->List OA)(x:X){Q:IH->Prop}(hk:aL (f x) kl aW:=by exact nP)(h:R Q B w0 (I8 f::aW) F):R Q B w0 kl F:=λw s=>by
 obtain⟨S,h1,h2,h3⟩:=s.own;obtain⟨S1,S2,q1,q2,hp⟩:=h1.jb hk;exact h w ⟨s.agree,s.le,s.eG,⟨S1++S2,⟨S1,S2,⟨x,q1⟩,q2,rfl⟩,hp.nodup h2,λi hi=>h3 i (hp.mem_iff.2 hi)⟩,s.facts⟩
theorem bX{Q:IH->Prop}(g:aB)(hg:∀w:Wd,(∀f∈F,f.p w)->g.p w)(h:R Q B w0 kl (g::F)):R Q B w0 kl F:=λw s=>
 h w ⟨s.agree,s.le,s.eG,s.own,λf hf=>by
  rcases bZ.1 hf with rfl|hf
  ·exact hg w s.facts
  ·exact s.facts f hf⟩
theorem Oq{Y:Type}{f:FuncId}{args cap:List Value}{kl:List OA}{F:List aB}{val:Y->Value}{kl':Y->List OA}{fs:Y->List aB}{pr:Y->Prop}{c:bG}{m:Nat}{l0:List (Nat×Value)}(cf:dW)(hF:(oz P nJ oZ).F f=some cf)
 (hb:∀B w0,R (λh=>EV P c (act m l0 [] none none) h (qM P cf (Left B w0 val kl' fs pr))) B w0 kl F)
 (h1:cf.body=c:=by conv=>lhs;(reduce;(try simp only[Int.reduceOfNat,Int.reduceNegSucc]))) (h2:oq cf.ntmps (fZ (args++cap))=m:=by conv=>lhs;whnf) (h3:mQ 0 (args++cap) []=l0:=by dsimp only[mQ,Nat.reduceAdd,List.append_nil,List.cons_append,List.nil_append]):aT P (.func f) args cap kl F val kl' fs pr:=
 YL cf hF hb h1 h2 h3
theorem rZ{Y:Type}{o:Out}{cf:dW}{vs:List Value}{val:Y->Value}{k1:Y->List OA}{fs:Y->List aB}{pr:Y->Prop}{eu:List OA}(y:Y)(hD:j5 kl D eu:=by repeat (first|exact j5.nil|(apply j5.cons;(focus (repeat (first|with_reducible exact ah.here|with_reducible apply ah.there|with_reducible apply ah.app))))))
 (hr:RS l eu cf.results vs:=by exact y8) (hv:pQ vs=val y) (hp:pr y)
 (hk:aL (k1 y) eu aW:=by exact nP) (hF:Sub (fs y) F:=by exact mR)
 (ho:o=.normal\/o=.ret:=by first|exact .inl rfl|exact .inr rfl):R (λh=>qM P cf (Left B w0 val k1 fs pr) o (act n l D none ro) h) B w0 kl F:=
 YM y hD hr hv hp hk hF ho
theorem Ex{Y:Type}{lo:Nat}{L:kD}{out:Y->Out}{k1:Y->List OA}{fs:Y->List aB}{pr:Y->Prop}{o:Out}{eu:List OA}(y:Y)(ho:o=out y)(hn:wY o)(hp:pr y)
 (hk:aL (pt lo (.loop (rY L))::k1 y) kl eu:=by exact nP) (hF:Sub (fs y) F:=by exact mR):
 R (λh=>wZ B w0 lo L out k1 fs pr o (act n l [] none ro) h) B w0 kl F:=YN y ho hn hp hk hF
theorem qN{α:Type}(E:Enc α){ds:List Tmp}{rest:List aP}{d:Nat}{g:Option (Tmp×Bool)}{e:TypeId}{size bytes b':Nat}{s x:Operand}{v:Value}{xs:List α}(a:α)(y:E.Y){cs:List Value}{k1 k2:List OA}
 (hm:(xs.length+1)*bytes<=1073741824/\(xs.length+1)*size<=1073741824/\xs.length+1<=1073741824)
 (next:∀ad,R (λh=>ax P ds rest (act n ((d,.slice ad (xs.length+1) (xs.length+1))::l) D pm ro) h K) B w0 (ap E (.slice ad (xs.length+1) (xs.length+1)) (xs++[a])::k2) F)
 (hn:Nat.blt d n=true:=by rfl) (hg:aZ l g=true:=by rfl)
 (hs:ev l s=v:=by conv=>lhs;whnf) (hx:ev l x=.slice (some ⟨b',0,some 0⟩) 1 1:=by rfl) (hk:ah (ap E v xs) kl k1:=by exact gp) (hc:ah (pt b' (.cells cs)) k1 k2:=by exact gp) (hp:cs=E.pat a y:=by rfl) (hF:Sub (E.fs a y) F:=by exact mR) (hz:E.n=size:=by rfl):
 R (λh=>ax P ds (⟨⟨some d,g,.append e size bytes s x⟩,[]⟩::rest) (act n l D pm ro) h K) B w0 kl F:=
 (Yr hn hg hs hx hk hc hp hF hz hm).h λv' w st=>by
   obtain⟨S,⟨S1,S2,q,_⟩,_⟩:=st.own;obtain⟨ad,e⟩:=NW q;rw[dK,qj]at e;subst e;exact next ad w st
section
variable {ds:List Tmp} {rest:List aP} {d:Nat} {g:Option (Tmp×Bool)}
theorem Ot{e:TypeId}{size bytes:Nat}{zero:List Value}{x y:Operand}(m:Nat)(hm:m*bytes<=1073741824/\m*size<=1073741824/\m<=1073741824)
 (next:∀b,R (λh=>ax P ds rest (act n ((d,.slice (some ⟨b,0,some 0⟩) m m)::l) D pm ro) h K) B w0 (pt b (.cells (zeros zero m))::kl) F)
 (hx:ev l x=.int .i64 (m:Int):=by rfl) (hy:ev l y=.int .i64 (m:Int):=by rfl) (hn:Nat.blt d n=true:=by rfl) (hg:aZ l g=true:=by rfl):
 R (λh=>ax P ds (⟨⟨some d,g,.uH e size bytes zero x y⟩,[]⟩::rest) (act n l D pm ro) h K) B w0 kl F:=(Yf hn hg hx hy hm).h next
theorem qO{x y:Operand}{b o:Nat}{cs cs':List Value}{v:Value}(hs:cs.set o v=cs')(ho:o<cs.length)
 (next:R (λh=>ax P ds rest (act n l D pm ro) h K) B w0 (pt b (.cells cs')::kl') F)
 (hx:ev l x=.pointer (some ⟨b,o,none⟩):=by rfl) (hy:ev l y=v:=by rfl) (hv:cellsOf v=some [v]:=by rfl) (hk:ah (pt b (.cells cs)) kl kl':=by exact gp) (hg:aZ l g=true:=by rfl):
 R (λh=>ax P ds (⟨⟨none,g,.store 1 x y⟩,[]⟩::rest) (act n l D pm ro) h K) B w0 kl F:=by subst hs;exact(Yk hg hx hy hv hk ho).h next
theorem mV{x:Operand}{b o:Nat}{cs:List Value}(v:Value)(hv:cs[o]? =some v)
 (next:R (λh=>ax P ds rest (act n ((d,v)::l) D pm ro) h K) B w0 kl F)
 (hx:ev l x=.pointer (some ⟨b,o,none⟩):=by rfl) (hk:ah (pt b (.cells cs)) kl kl':=by exact gp) (hn:Nat.blt d n=true:=by rfl) (hg:aZ l g=true:=by rfl):
 R (λh=>ax P ds (⟨⟨some d,g,.aH x⟩,[]⟩::rest) (act n l D pm ro) h K) B w0 kl F:=(Yl hn hg hx hk hv).h next
end
end
