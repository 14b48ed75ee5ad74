/-
  The ideal machine, 57: loops over functions, seen from all states of a kind; functions that leave collected ends behind.
-/
import Derived.Test.YtfakljdleblkoaaGreatIdealKM
set_option linter.all false
namespace Go.Ideal
variable {P:Program}
def pE(P:Program)(cf:gU)(K:KR):KO:=λo a h=>match tq o with
 |none=>False
 |some m=>LEAVE P cf a.tmps a.defers m h λr h''=>K r a.pm h''
theorem aeq{Y:Type}{f:FuncId}{args cap:List Value}{kl:List OA}{F:List aD}{val:Y->Value}{kl':Y->List OA}{fs:Y->List aD}{pr:Y->Prop}{c:dm}{m:Nat}{l0:List (Nat×Value)}(cf:gU)(hF:(p9 P qI qa).F f=some cf)
 (hb:∀B w0,R (λh=>EV P c (act m l0 [] none none) h (pE P cf (Left B w0 val kl' fs pr))) B w0 kl F)
 (h1:cf.body=c:=by conv=>lhs;(reduce;(try simp only[Int.reduceOfNat,Int.reduceNegSucc]))) (h2:rJ cf.ntmps (iG (args++cap))=m:=by conv=>lhs;whnf) (h3:qi 0 (args++cap) []=l0:=by dsimp only[qi,Nat.reduceAdd,List.append_nil,List.cons_append,List.nil_append]):aQ P (.func f) args cap kl F val kl' fs pr:=by
 intro B w s;obtain⟨fn,e1,e2⟩:=(CQ P qI qa (λf q h v h' hm=>by cases hm)).fn f cf hF;refine Ue cf fn e1 e2 ?_;rw[NS,h1,h2,h3];exact hb B w w s
section
variable {B:List Nat} {w0:Wd} {kl kl' aT:List OA} {F:List aD} {K:KO} {n:Nat} {l:List (Nat×Value)} {D:List Deferred} {pm:Option FrameMode} {ro:Option Nat}
inductive jA:List OA->List Deferred->List OA->Prop
 |nil {kl:List OA}:jA kl [] kl
 |cons {kl kl' dS:List OA} {r:Nat} {args:Array Value} {D:List Deferred} (h:az (pt r (.gT true)) kl kl') (t:jA kl' D dS):jA kl ({target:=.collected r,args}::D) dS
theorem jA.leave{cf:gU}{ts:T Value}{Kr:iO->IH->Prop}:∀{D:List Deferred} {kl dS:List OA},jA kl D dS->(∀w',St B w0 dS F w'->∃v,qH cf.results ts w'.h=some v/\Kr (.ok v) w'.h)->∀w,St B w0 kl F w->LEAVE P cf ts D .returning w.h Kr
 |_,_,_,.nil,hk,w,s=>by
  obtain⟨v,h1,h2⟩:=hk w s;exact .ret v h1 h2
 |_,_,_,.cons (r:=r) h t,hk,w,s=>by
  have s1:=s.fA h;refine .coll (by intro e;cases e) r s1.get.1 ?_;exact jA.leave t hk _ (s1.write (o':=.gT false)).tail
theorem UF{Y:Type}{o:Out}{cf:gU}{vs:List Value}{val:Y->Value}{k1:Y->List OA}{fs:Y->List aD}{pr:Y->Prop}{dS:List OA}(y:Y)(hD:jA kl D dS)(hr:RS l dS cf.results vs)(hv:qP vs=val y)(hp:pr y)(hk:aO (k1 y) dS aT)(hF:Sub (fs y) F)
 (ho:o=.normal\/o=.ret):R (λh=>pE P cf (Left B w0 val k1 fs pr) o (act n l D none ro) h) B w0 kl F:=by
 intro w s;have key:LEAVE P cf (fU l) D .returning w.h λr h''=>Left B w0 val k1 fs pr r none h'':=by
  refine jA.leave hD (λw' s'=>⟨val y,?_,rfl,w',y,rfl,((s'.jy hk).drop).sub hF,rfl,hp⟩) w s;unfold qH;rw[hr.all s',<- hv];match vs with
  |[]=>rfl
  |[v]=>rfl
  |_::_::_=>rfl
 rcases ho with rfl|rfl
 ·exact key
 ·exact key
def oK(L:lm):lm:={L with state:=.busy}
def jl(L:lm)(o:Out):lm:=match o with
 | .normal=>{L with state:=.ready,pending:=none}
 |o=>{L with state:=.done,pending:=some o}
def iY(o:Out):Bool:=match o with
 | .normal=>true
 |_=>false
def tY(o:Out):Prop:=match o with
 | .panic _=>False
 |_=>True
def Jo(B:List Nat)(w0:Wd)(n:Nat)(l3:List (Nat×Value))(lo:Nat)(kl:List OA)(F:List aD):KO:=λo a h=>
 o=.normal/\a=act n l3 [] none (some lo)/\∃w:Wd,w.h=h/\St B w0 kl F w
theorem aer{lo:Nat}:R (λh=>Jo B w0 n l lo kl F .normal (act n l [] none (some lo)) h) B w0 kl F:=λw s=>⟨rfl,rfl,w,rfl,s⟩
def tZ{Y:Type}(B:List Nat)(w0:Wd)(lo:Nat)(L:lm)(out:Y->Out)(k1:Y->List OA)(fs:Y->List aD)(pr:Y->Prop):KO:=λo a h=>
 a.defers=[]/\∃(w:Wd) (y:Y),w.h=h/\o=out y/\tY o/\St B w0 (pt lo (.loop (oK L))::k1 y) (fs y) w/\pr y
theorem aes{Y:Type}{lo:Nat}{L:lm}{out:Y->Out}{k1:Y->List OA}{fs:Y->List aD}{pr:Y->Prop}{o:Out}{dS:List OA}(y:Y)(ho:o=out y)(hn:tY o)(hp:pr y)(hk:aO (pt lo (.loop (oK L))::k1 y) kl dS)(hF:Sub (fs y) F):
 R (λh=>tZ B w0 lo L out k1 fs pr o (act n l [] none ro) h) B w0 kl F:=λw s=>⟨rfl,w,y,rfl,ho,hn,((s.jy hk).drop).sub hF,hp⟩
theorem NU(n:Nat):∀(ps:List Tmp) (args:List Value) (l:List (Nat×Value)),ps.all (λp=>Nat.blt p n)=true->ps.length=args.length->∃l2,tu n ps args (fU l)=fU l2/\l2=(ps.zip args).reverse++l
 |[],[],l,_,_=>⟨l,rfl,rfl⟩
 |p::ps,v::args,l,h,e=>by
  simp only[Em,eU]at h;obtain⟨l2,h1,h2⟩:=NU n ps args ((p,v)::l) h.2 (by simpa using e);refine⟨l2,?_,by rw[h2];simp⟩;rw[<- h1];show tu n ps args (cond (Nat.blt p n) ((fU l).set p (some v)) (fU l))=_;rw[h.1];rfl
theorem aet{Y:Type}{lo:Nat}{L:lm}{args:List Value}{k1:List OA}{out:Y->Out}{k1':Y->List OA}{fs:Y->List aD}{pr:Y->Prop}(l l3:List (Nat×Value))(hl:L.tmps=fU l)(hst:L.state=.ready)(hps:L.params.all (λp=>Nat.blt p L.n)=true)(hlen:L.params.length=args.length)
 (ha:∀B w0,R (λh=>EV P L.assign (act L.n ((L.params.zip args).reverse++l) [] none (some lo)) h (Jo B w0 L.n l3 lo (pt lo (.loop L)::k1) F)) B w0 (pt lo (.loop L)::k1) F)
 (hb:∀B w0,R (λh=>EV P L.body (act L.n l3 [] none (some lo)) h (tZ B w0 lo L out k1' fs pr)) B w0 (pt lo (.loop (oK L))::k1) F):
 aQ P (.yield lo) args [] (pt lo (.loop L)::k1) F (λy:Y=>.bool (iY (out y))) (λy=>pt lo (.loop (jl L (out y)))::k1' y) fs pr:=by
 intro B w s;obtain⟨l2,e1,e2⟩:=NU L.n L.params args l hps hlen;refine .round lo rfl rfl L s.get.1 hlen.symm _ (by
  rw[hl];show EV P L.assign (aV.mk L.n (tu L.n L.params args (fU l)) [] none (some lo)) w.h _;rw[e1,e2];exact ha B w w s) ?_ ?_
 ·rintro o a h ⟨rfl,rfl,w1,rfl,s1⟩;exact⟨rfl,L,s1.get.1,hst⟩
 ·rintro a h r1 ⟨_,rfl,w1,rfl,s1⟩ hr;have hr1:r1=L:=by
   have:=s1.get.1;rw[hr]at this;injection this with this;injection this
  subst hr1;have hb:=hb B w _ (s1.write (o':=.loop (oK r1)));refine Ii hb _ ?_;rintro o a h ⟨hd,w2,y,rfl,rfl,hn,s2,hp⟩;refine⟨oK r1,s2.get.1,hd,?_⟩;have fin:∀o',iY o'=iY (out y)->jl r1 o'=jl r1 (out y)->Left B w (λy:Y=>.bool (iY (out y))) (λy=>pt lo (.loop (jl r1 (out y)))::k1' y) fs pr (.ok (.bool (iY (out y)))) none (w2.h.set lo (.loop (jl r1 (out y)))):=λo' _ _=>
   ⟨rfl,_,y,rfl,s2.write,rfl,hp⟩
  cases ho:out y with
  |normal=>have:=fin .normal (by rw[ho]) (by rw[ho]);rw[ho]at this;exact this
  |exit j=>have:=fin (.exit j) (by rw[ho]) (by rw[ho]);rw[ho]at this;exact this
  |ret=>have:=fin .ret (by rw[ho]) (by rw[ho]);rw[ho]at this;exact this
  |panic ch=>rw[ho]at hn;exact hn.elim
theorem Jp{Y:Type}{f:Operand}{ps:List Tmp}{assign body:dm}{fn:Fn}{first captured:List Value}{k1:List OA}{F1:List aD}{De:Y->Value}{out:Y->Out}{k1':Y->List OA}{fs:Y->List aD}{pr:Y->Prop}
 (hf:ev l f=.func fn ⟨first⟩ ⟨captured⟩)
 (it:∀lo r,aQ P fn (first++[.func (.yield lo) #[] #[]]) captured (pt lo (.loop ⟨.ready,none,fU l,n,ps,assign,body,r⟩)::k1) F1 De (λy=>pt lo (.loop (jl ⟨.ready,none,fU l,n,ps,assign,body,r⟩ (out y)))::k1' y) fs pr)
 (hk:aO k1 kl aT) (hF:Sub F1 F)
 (next:∀r y,pr y->R (λh=>K (out y) (act n l ({target:=.collected r,args:= #[]}::D) pm none) h) B w0 (k1' y++(pt r (.gT true)::aT)) (fs y++F)):
 R (λh=>EV P (.rangeFunc f ps assign body) (act n l D pm none) h K) B w0 kl F:=by
 intro w s;let L:Nat->lm:=λr=>⟨.ready,none,fU l,n,ps,assign,body,r⟩
 let r:=w.h.next
 let w1:=w.new (.gT true)
 have s1:St B w0 (pt r (.gT true)::kl) F w1:=s.new _;let lo:=w1.h.next
 let w2:=w1.new (.loop (L r))
 have s2:St B w0 (pt lo (.loop (L r))::pt r (.gT true)::kl) F w2:=s1.new _;have s3:St B w0 ((pt lo (.loop (L r))::k1)++(pt r (.gT true)::aT)) F w2:=s2.jy (k:=pt lo (.loop (L r))::k1) (kl':=pt r (.gT true)::aT) (.cons .here (by
  have:∀{k kl aT:List OA} (A:OA),aO k kl aT->aO k (A::kl) (A::aT):=by
   intro k kl aT A h;induction h with
   |nil=>exact .nil
   |cons h1 _ ih=>exact .cons (.there h1) ih
  exact this _ hk))
 obtain⟨S,h1,h2,h3⟩:=s3.own;obtain⟨S1,S2,q1,q2,hp⟩:=h1.jy (k:=pt lo (.loop (L r))::k1) (kl':=pt r (.gT true)::aT) (by
  have:∀(k kr:List OA),aO k (k++kr) kr:=by
   intro k kr;induction k with
   |nil=>exact .nil
   |cons A k ih=>exact .cons .here ih
  exact this _ _)
 have hsub:∀i∈S1,i∈S:=λi hi=>hp.mem_iff.2 (kK _ hi);have st1:St S1 w2 (pt lo (.loop (L r))::k1) F1 w2:=⟨⟨bB _,λ_ _ _=>rfl,λ_ _=>rfl⟩,Wd.Le.refl w2,λi _ hz=>.inl hz,⟨S1,q1,(iN.1 (hp.nodup h2)).1,λi hi=>⟨.inr hi,(h3 i (hsub i hi)).2⟩⟩,λf hf=>s2.facts f (hF.mem f hf)⟩
 have hc:=it lo r S1 w2 st1;refine .rangeFunc fn first captured (by rw[nu];exact hf) (act n l ({target:=.collected r,args:= #[]}::D) pm none) w1.h r (.inl ⟨rfl,rfl,rfl,rfl⟩) (Left S1 w2 De (λy=>pt lo (.loop (jl (L r) (out y)))::k1' y) fs pr) ?_ ?_ ?_
 ·rw[jE];exact hc
 ·rintro v pm' h' ⟨rfl,w',y,rfl,c,hv,hpr⟩;have sc:St B w0 ((pt lo (.loop (jl (L r) (out y)))::k1' y)++(pt r (.gT true)::aT)) (fs y++F) w':=s3.call (k1:=pt lo (.loop (L r))::k1) (F1:=F1) ⟨S,hp,h2,h3⟩ q2 c;have hg:=(show St B w0 (pt lo (.loop (jl (L r) (out y)))::(k1' y++(pt r (.gT true)::aT))) (fs y++F) w' from sc).get;refine⟨jl (L r) (out y),hg.1,?_,?_⟩
  ·cases out y<;>simp[jl]
  ·have e:(jl (L r) (out y)).pending.getD .normal=out y:=by cases out y<;>rfl
   rw[e];exact next r y hpr _ (St.write (o':=.loop {jl (L r) (out y)with state:=.exhausted}) sc).tail
 ·rintro ch pm' h' ⟨rfl,w',y,rfl,c,hv,hpr⟩;cases hv
end
end Go.Ideal
namespace Go.Ideal
variable {P:Program}
def bS{S α:Type}(step:S->α->S×Bool):S->List α->S
 |s,[]=>s
 |s,x::xs=>match step s x with
  |(s',true)=>bS step s' xs
  |(s',false)=>s'
def fM{S α:Type}(step:S->α->S×Out):S->List α->S×Out
 |s,[]=>(s,.normal)
 |s,x::xs=>match step s x with
  |(s',.normal)=>fM step s' xs
  |(s',o)=>(s',o)
def Df{α:Type}(P:Program)(val:α->Value)(fn:Fn)(first cap:List Value)(F:List aD)(xs:List α):Prop:=
 ∀(S:Type) (inv:S->List OA) (ok:Nat->S->Prop) (step:S->α->S×Bool) (s0:S) (ny:Fn) (y1 y2:List Value) (F':List aD),ok 0 s0->(∀k s x,ok k s->xs[k]? =some x->(step s x).2=true->ok (k+1) (step s x).1)->
  (∀k s x,ok k s->xs[k]? =some x->aQ P ny (y1++[val x]) y2 (inv s) F' (λ_:Unit=>.bool (step s x).2) (λ_=>inv (step s x).1) (λ_=>[]) (λ_=>True))->
  aQ P fn (first++[.func ny ⟨y1⟩ ⟨y2⟩]) cap (inv s0) (F++F') (λ_:Unit=>.tuple ⟨[]⟩) (λ_=>inv (bS step s0 xs)) (λ_=>[]) (λ_=>True)
theorem Sub.refl'{α:Type}:∀(l k:List α),Sub l (k++l)
 |[],_=>.nil
 |a::l,k=>.cons (om _ (bR ..)) (by have:=Sub.refl' l (k++[a]);rwa [ed]at this)
theorem Sub.app{α:Type}:∀{k1 k2 l:List α},Sub k1 l->Sub k2 l->Sub (k1++k2) l
 |_,_,_,.nil,h=>h
 |_,_,_,.cons h h1,h2=>.cons h (h1.app h2)
section
variable {B:List Nat} {w0:Wd} {kl kl' aT:List OA} {F:List aD} {K:KO} {n:Nat} {l:List (Nat×Value)} {D:List Deferred} {pm:Option FrameMode} {ro:Option Nat}
theorem FJ{S α:Type}{step:S->α->S×Out}:∀(xs:List α) (s:S),bS (λ(so:S×Out) x=>(step so.1 x,iY (step so.1 x).2)) (s,Out.normal) xs=fM step s xs
 |[],s=>rfl
 |x::xs,s=>by
  have ih:=FJ (step:=step) xs;simp only[bS,fM];cases h:step s x with
  |mk s' o=>
   cases o with
   |normal=>simp only[iY];exact ih s'
   |_=>simp only[iY]
theorem aeu{S α:Type}{f:Operand}{ps:List Tmp}{assign body:dm}{fn:Fn}{first captured:List Value}{val:α->Value}{F1:List aD}{xs:List α}(step:S->α->S×Out)(inv:S->List OA)(ok:Nat->S->Prop)(s0:S)(h0:ok 0 s0)(hok:∀k s x,ok k s->xs[k]? =some x->(step s x).2=.normal->ok (k+1) (step s x).1)(hit:Df P val fn first captured F1 xs)
 (hf:ev l f=.func fn ⟨first⟩ ⟨captured⟩) (hps:ps.all (λp=>Nat.blt p n)=true) (hlen:ps.length=1) (hk:aO (inv s0) kl aT) (hF:Sub F1 F) (iC:∀s x,tY (step s x).2)
 (l3:α->List (Nat×Value))
 (ha:∀(s:S) (x:α) (lo:Nat) (o:dJ) B w0,R (λh=>EV P assign (act n ((ps.zip [val x]).reverse++l) [] none (some lo)) h (Jo B w0 n (l3 x) lo (pt lo o::inv s) F)) B w0 (pt lo o::inv s) F)
 (hb:∀(k:Nat) (s:S) (x:α) (lo:Nat) (L:lm) B w0,ok k s->xs[k]? =some x->R (λh=>EV P body (act n (l3 x) [] none (some lo)) h (tZ B w0 lo L (λ_:Unit=>(step s x).2) (λ_=>inv (step s x).1) (λ_=>[]) (λ_=>True))) B w0 (pt lo (.loop (oK L))::inv s) F)
 (next:∀r,R (λh=>K (fM step s0 xs).2 (act n l ({target:=.collected r,args:= #[]}::D) pm none) h) B w0 (inv (fM step s0 xs).1++(pt r (.gT true)::aT)) F):
 R (λh=>EV P (.rangeFunc f ps assign body) (act n l D pm none) h K) B w0 kl F:=by
 refine Jp (Y:=Unit) (k1:=inv s0) (F1:=F1++F) (De:=λ_=>.tuple ⟨[]⟩) (out:=λ_=>(fM step s0 xs).2) (k1':=λ_=>inv (fM step s0 xs).1) (fs:=λ_=>[]) (pr:=λ_=>True) hf ?_ hk (hF.app (Sub.refl' F [])) (λr y _=>next r);intro lo r;have:=hit (S×Out) (λso=>pt lo (.loop (jl ⟨.ready,none,fU l,n,ps,assign,body,r⟩ so.2))::inv so.1) (λk so=>so.2=.normal/\ok k so.1) (λso x=>(step so.1 x,iY (step so.1 x).2)) (s0,.normal) (.yield lo) [] [] F ⟨rfl,h0⟩
  (λk so x ho hx h=>by
    have h:iY (step so.1 x).2=true:=h;have hn:(step so.1 x).2=.normal:=by
     cases e:(step so.1 x).2 with
     |normal=>rfl
     |_=>rw[e]at h;cases h
    exact⟨hn,hok k so.1 x ho.2 hx hn⟩)
  (λk so x ho hx=>by
    obtain⟨s,o⟩:=so;obtain⟨hn,ho⟩:=ho;have hn:o=.normal:=hn;subst hn;exact aet (Y:=Unit) (L:=⟨.ready,none,fU l,n,ps,assign,body,r⟩) (args:=[val x]) (k1:=inv s) (out:=λ_=>(step s x).2) (k1':=λ_=>inv (step s x).1) (fs:=λ_=>[]) (pr:=λ_=>True) l (l3 x) rfl rfl hps hlen
     (λB w0=>ha s x lo _ B w0) (λB w0=>hb k s x lo _ B w0 ho hx))
 rw[FJ]at this;exact this
end
end Go.Ideal
namespace Go.Ideal
variable {P:Program} {ρ:Operand->Value}
theorem wrapN{m:Nat}(h:m<9223372036854775808):IntKind.i64.wrap (m:Int)=m:=wrap64 (by omega) (by omega)
theorem FK{x y:Operand}{t:TypeId}{a b:Nat}(hx:ρ x=.int .i64 (a:Int))(hy:ρ y=.int .i64 (b:Int))(hb:b<64):Pu P ρ (.bin .shr t x y) (.int .i64 ((a>>>b:Nat):Int)):=λh=>by
 simp only[aF.run,hx,hy];rw[Bd (op:=.shr) (v:=.int .i64 ((a>>>b:Nat):Int)) rfl (by
  show eB P (Op.shift .shr .i64 a .i64 b)=_;unfold Op.shift;rw[if_neg (by omega)];show some (Value.int .i64 ((a:Int).fdiv (2^(min (b:Int).toNat 64))))=_;rw[show min (b:Int).toNat 64=b by simp;omega,Rt];congr 2;rw[show((2:Int)^b)=((2^b:Nat):Int)by simp,Int.fdiv_eq_ediv_of_nonneg _ (Int.natCast_nonneg _)];simp) rfl]
theorem UG{x y:Operand}{t:TypeId}{a b:Nat}(hx:ρ x=.int .i64 (a:Int))(hy:ρ y=.int .i64 (b:Int))(hb:b<64)(hr:a<<<b<9223372036854775808):Pu P ρ (.bin .shl t x y) (.int .i64 ((a<<<b:Nat):Int)):=λh=>by
 simp only[aF.run,hx,hy];rw[Bd (op:=.shl) (v:=.int .i64 ((a<<<b:Nat):Int)) rfl (by
  show eB P (Op.shift .shl .i64 a .i64 b)=_;unfold Op.shift;rw[if_neg (by omega)];show some (Value.int .i64 (IntKind.i64.wrap ((a:Int)*2^(min (b:Int).toNat 64))))=_;rw[show min (b:Int).toNat 64=b by simp;omega];rw[show((a:Int)*2^b)=((a<<<b:Nat):Int)by rw[Nat.shiftLeft_eq];simp,wrapN hr]) rfl]
theorem Jq{a:Nat}(h:a<9223372036854775808):(BitVec.ofInt 64 (a:Int)).toNat=a:=by
 simp[BitVec.toNat_ofInt];omega
theorem FL{x y:Operand}{t:TypeId}{a b:Nat}(hx:ρ x=.int .i64 (a:Int))(hy:ρ y=.int .i64 (b:Int))(ha:a<9223372036854775808)(hb:b<9223372036854775808):Pu P ρ (.bin .and t x y) (.int .i64 ((a&&&b:Nat):Int)):=λh=>by
 simp only[aF.run,hx,hy];rw[Bd (op:=.and) (v:=.int .i64 ((a&&&b:Nat):Int)) rfl (by
  show eB P (Op.intBits .and .i64 a b)=_;show some (Value.int .i64 (IntKind.i64.wrap ((BitVec.ofInt 64 (a:Int)&&&BitVec.ofInt 64 (b:Int)).toNat:Int)))=_;rw[BitVec.toNat_and,Jq ha,Jq hb,wrapN (Es Nat.and_le_left ha)]) rfl]
theorem UH{x y:Operand}{t:TypeId}{a b:Nat}(hx:ρ x=.int .i64 (a:Int))(hy:ρ y=.int .i64 (b:Int))(ha:a<9223372036854775808)(hb:b<9223372036854775808):Pu P ρ (.bin .or t x y) (.int .i64 ((a|||b:Nat):Int)):=λh=>by
 simp only[aF.run,hx,hy];rw[Bd (op:=.or) (v:=.int .i64 ((a|||b:Nat):Int)) rfl (by
  show eB P (Op.intBits .or .i64 a b)=_;show some (Value.int .i64 (IntKind.i64.wrap ((BitVec.ofInt 64 (a:Int)|||BitVec.ofInt 64 (b:Int)).toNat:Int)))=_;have:a|||b<2^63:=Ru (by omega) (by omega);rw[BitVec.toNat_or,Jq ha,Jq hb,wrapN (by omega)]) rfl]
end Go.Ideal
namespace Go.Ideal
variable {P:Program}
def Jr{X:Type}(f:X->List OA):OA:=⟨λw S=>∃x,eP w (f x) S,λa h ⟨x,hx⟩=>⟨x,eP.loc a h hx⟩⟩
theorem aev{ρ:Operand->Value}{x y:Operand}{a b:Int}(hx:ρ x=.int .i64 a)(hy:ρ y=.int .i64 b):Pu P ρ (.Au true [x,y]) (.int .i64 (max a b)):=λh=>by
 have e:lS ρ [x,y]=[.int .i64 a,.int .i64 b]:=by rw[vZ];simp[hx,hy]
 simp only[aF.run,e,uJ,cond];by_cases hb:b<=a
 ·rw[tJ,fQ hb,Int.max_eq_left hb]
 ·have:leZ b a=false:=by rw[tJ,dM hb]
  rw[this,Int.max_eq_right (by omega)]
section
variable {B:List Nat} {w0:Wd} {kl kl' aT:List OA} {F:List aD} {K:KO} {n:Nat} {l:List (Nat×Value)} {D:List Deferred} {pm:Option FrameMode} {ro:Option Nat}
theorem zF{X:Type}{f:X->List OA}{dS:X->List OA}{Q:IH->Prop}(hk:az (Jr f) kl kl':=by exact fB)(ha:∀x,aX (f x) kl' (dS x):=by intro x;repeat (first|exact aX.nil|apply aX.cons|exact aX.self|exact aX.app))(h:∀x,R Q B w0 (dS x) F):R Q B w0 kl F:=λw s=>by
 obtain⟨S,⟨S1,S2,⟨x,q1⟩,q2,e⟩,h2,h3⟩:=(s.fA hk).own;refine h x w ?_;rw[<- (ha x).eq];exact⟨s.agree,s.le,s.fE,⟨S,by rw[e];exact q1.app q2,h2,h3⟩,s.facts⟩
theorem uZ{X:Type}(f:X->List OA)(x:X){Q:IH->Prop}(hk:aO (f x) kl aT:=by exact l6)(h:R Q B w0 (Jr f::aT) F):R Q B w0 kl F:=λw s=>by
 obtain⟨S,h1,h2,h3⟩:=s.own;obtain⟨S1,S2,q1,q2,hp⟩:=h1.jy hk;exact h w ⟨s.agree,s.le,s.fE,⟨S1++S2,⟨S1,S2,⟨x,q1⟩,q2,rfl⟩,hp.nodup h2,λi hi=>h3 i (hp.mem_iff.2 hi)⟩,s.facts⟩
theorem fO{Q:IH->Prop}(g:aD)(hg:∀w:Wd,(∀f∈F,f.p w)->g.p w)(h:R Q B w0 kl (g::F)):R Q B w0 kl F:=λw s=>
 h w ⟨s.agree,s.le,s.fE,s.own,λf hf=>by
  rcases bN.1 hf with rfl|hf
  ·exact hg w s.facts
  ·exact s.facts f hf⟩
theorem NV{α:Type}{E:Enc α}{w:Wd}{b f c:Nat}{v:Value}{xs:List α}(h1:(bz b 0 [v]).p w)(h2:(ah E v xs).p w)(hc:1<=c:=by first|exact bB _|omega)(hf:f=0\/f=1:=by first|exact .inl rfl|exact .inr rfl):(ah (aB E) (.slice (some ⟨b,0,some f⟩) 1 c) [xs]).p w:=by
 obtain⟨cells,q1,q2⟩:=h1;refine .inr ⟨b,0,f,c,cells,⟨rfl,hc,hf⟩,q1,λk x hk=>?_⟩;match k,hk with
 |0,hk=>
  cases hk;refine⟨v,λj u hj=>?_,λg hg=>by rw[bO.1 hg];exact h2⟩;have:=q2 j u hj;simpa using this
theorem zG{Y:Type}{f:FuncId}{args cap:List Value}{kl:List OA}{F:List aD}{val:Y->Value}{kl':Y->List OA}{fs:Y->List aD}{pr:Y->Prop}{c:dm}{m:Nat}{l0:List (Nat×Value)}(cf:gU)(hF:(p9 P qI qa).F f=some cf)
 (hb:∀B w0,R (λh=>EV P c (act m l0 [] none none) h (pE P cf (Left B w0 val kl' fs pr))) B w0 kl F)
 (h1:cf.body=c:=by conv=>lhs;(reduce;(try simp only[Int.reduceOfNat,Int.reduceNegSucc]))) (h2:rJ cf.ntmps (iG (args++cap))=m:=by conv=>lhs;whnf) (h3:qi 0 (args++cap) []=l0:=by dsimp only[qi,Nat.reduceAdd,List.append_nil,List.cons_append,List.nil_append]):aQ P (.func f) args cap kl F val kl' fs pr:=
 aeq cf hF hb h1 h2 h3
theorem u7{Y:Type}{o:Out}{cf:gU}{vs:List Value}{val:Y->Value}{k1:Y->List OA}{fs:Y->List aD}{pr:Y->Prop}{dS:List OA}(y:Y)(hD:jA kl D dS:=by repeat (first|exact jA.nil|(apply jA.cons;(focus (repeat (first|with_reducible exact az.here|with_reducible apply az.there|with_reducible apply az.app))))))
 (hr:RS l dS cf.results vs:=by exact Be) (hv:qP vs=val y) (hp:pr y)
 (hk:aO (k1 y) dS aT:=by exact l6) (hF:Sub (fs y) F:=by exact l5)
 (ho:o=.normal\/o=.ret:=by first|exact .inl rfl|exact .inr rfl):R (λh=>pE P cf (Left B w0 val k1 fs pr) o (act n l D none ro) h) B w0 kl F:=
 UF y hD hr hv hp hk hF ho
theorem UI{S α:Type}{f:Operand}{ps:List Tmp}{assign body:dm}{fn:Fn}{first captured:List Value}{val:α->Value}{F1:List aD}{xs:List α}{l3:α->List (Nat×Value)}(step:S->α->S×Out)(inv:S->List OA)(ok:Nat->S->Prop)(s0:S)(h0:ok 0 s0)(hok:∀k s x,ok k s->xs[k]? =some x->(step s x).2=.normal->ok (k+1) (step s x).1)(hit:Df P val fn first captured F1 xs)
 (hb:∀(k:Nat) (s:S) (x:α) (lo:Nat) (L:lm) B w0,ok k s->xs[k]? =some x->R (λh=>EV P body (act n (l3 x) [] none (some lo)) h (tZ B w0 lo L (λ_:Unit=>(step s x).2) (λ_=>inv (step s x).1) (λ_=>[]) (λ_=>True))) B w0 (pt lo (.loop (oK L))::inv s) F)
 (next:∀r,R (λh=>K (fM step s0 xs).2 (act n l ({target:=.collected r,args:= #[]}::D) pm none) h) B w0 (inv (fM step s0 xs).1++(pt r (.gT true)::aT)) F)
 (iC:∀s x,tY (step s x).2)
 (ha:∀(s:S) (x:α) (lo:Nat) (o:dJ) B w0,R (λh=>EV P assign (act n ((ps.zip [val x]).reverse++l) [] none (some lo)) h (Jo B w0 n (l3 x) lo (pt lo o::inv s) F)) B w0 (pt lo o::inv s) F:=by intro s x lo o B w0;refine go ?_;exact aer)
 (hf:ev l f=.func fn ⟨first⟩ ⟨captured⟩:=by rfl) (hps:ps.all (λp=>Nat.blt p n)=true:=by rfl) (hlen:ps.length=1:=by rfl)
 (hk:aO (inv s0) kl aT:=by exact l6) (hF:Sub F1 F:=by exact l5):
 R (λh=>EV P (.rangeFunc f ps assign body) (act n l D pm none) h K) B w0 kl F:=
 aeu step inv ok s0 h0 hok hit hf hps hlen hk hF iC l3 ha hb next
theorem qQ{Y:Type}{lo:Nat}{L:lm}{out:Y->Out}{k1:Y->List OA}{fs:Y->List aD}{pr:Y->Prop}{o:Out}{dS:List OA}(y:Y)(ho:o=out y)(hn:tY o)(hp:pr y)
 (hk:aO (pt lo (.loop (oK L))::k1 y) kl dS:=by exact l6) (hF:Sub (fs y) F:=by exact l5):
 R (λh=>tZ B w0 lo L out k1 fs pr o (act n l [] none ro) h) B w0 kl F:=aes y ho hn hp hk hF
theorem jO{α:Type}(E:Enc α){ds:List Tmp}{rest:List bP}{d:Nat}{g:Option (Tmp×Bool)}{e:TypeId}{size bytes b':Nat}{s x:Operand}{v:Value}{xs:List α}(a:α)(y:E.Y){cs:List Value}{k1 k2:List OA}
 (hm:(xs.length+1)*bytes<=1073741824/\(xs.length+1)*size<=1073741824/\xs.length+1<=1073741824)
 (next:∀ad,R (λh=>aI P ds rest (act n ((d,.slice ad (xs.length+1) (xs.length+1))::l) D pm ro) h K) B w0 (ap E (.slice ad (xs.length+1) (xs.length+1)) (xs++[a])::k2) F)
 (hn:Nat.blt d n=true:=by rfl) (hg:bM l g=true:=by rfl)
 (hs:ev l s=v:=by conv=>lhs;whnf) (hx:ev l x=.slice (some ⟨b',0,some 0⟩) 1 1:=by rfl) (hk:az (ap E v xs) kl k1:=by exact fB) (hc:az (pt b' (.cells cs)) k1 k2:=by exact fB) (hp:cs=E.pat a y:=by rfl) (hF:Sub (E.fs a y) F:=by exact l5) (hz:E.n=size:=by rfl):
 R (λh=>aI P ds (⟨⟨some d,g,.append e size bytes s x⟩,[]⟩::rest) (act n l D pm ro) h K) B w0 kl F:=
 (ad4 hn hg hs hx hk hc hp hF hz hm).h λv' w st=>by
   obtain⟨S,⟨S1,S2,q,_⟩,_⟩:=st.own;obtain⟨ad,e⟩:=NP q;rw[gP,yT]at e;subst e;exact next ad w st
section
variable {ds:List Tmp} {rest:List bP} {d:Nat} {g:Option (Tmp×Bool)}
theorem xN{e:TypeId}{size bytes:Nat}{zero:List Value}{x y:Operand}(m:Nat)(hm:m*bytes<=1073741824/\m*size<=1073741824/\m<=1073741824)
 (next:∀b,R (λh=>aI P ds rest (act n ((d,.slice (some ⟨b,0,some 0⟩) m m)::l) D pm ro) h K) B w0 (pt b (.cells (zeros zero m))::kl) F)
 (hx:ev l x=.int .i64 (m:Int):=by rfl) (hy:ev l y=.int .i64 (m:Int):=by rfl) (hn:Nat.blt d n=true:=by rfl) (hg:bM l g=true:=by rfl):
 R (λh=>aI P ds (⟨⟨some d,g,.Ar e size bytes zero x y⟩,[]⟩::rest) (act n l D pm ro) h K) B w0 kl F:=(adS hn hg hx hy hm).h next
theorem mD{x y:Operand}{b o:Nat}{cs cs':List Value}{v:Value}(hs:cs.set o v=cs')(ho:o<cs.length)
 (next:R (λh=>aI P ds rest (act n l D pm ro) h K) B w0 (pt b (.cells cs')::kl') F)
 (hx:ev l x=.pointer (some ⟨b,o,none⟩):=by rfl) (hy:ev l y=v:=by rfl) (hv:cellsOf v=some [v]:=by rfl) (hk:az (pt b (.cells cs)) kl kl':=by exact fB) (hg:bM l g=true:=by rfl):
 R (λh=>aI P ds (⟨⟨none,g,.store 1 x y⟩,[]⟩::rest) (act n l D pm ro) h K) B w0 kl F:=by subst hs;exact(adW hg hx hy hv hk ho).h next
theorem pF{x:Operand}{b o:Nat}{cs:List Value}(v:Value)(hv:cs[o]? =some v)
 (next:R (λh=>aI P ds rest (act n ((d,v)::l) D pm ro) h K) B w0 kl F)
 (hx:ev l x=.pointer (some ⟨b,o,none⟩):=by rfl) (hk:az (pt b (.cells cs)) kl kl':=by exact fB) (hn:Nat.blt d n=true:=by rfl) (hg:bM l g=true:=by rfl):
 R (λh=>aI P ds (⟨⟨some d,g,.gI x⟩,[]⟩::rest) (act n l D pm ro) h K) B w0 kl F:=(adX hn hg hx hk hv).h next
theorem aew{α:Type}(E:Enc α){x lo:Operand}{v:Value}{q:α}{qs:List α}{size:Nat}
 (next:∀ad,R (λh=>aI P ds rest (act n ((d,.slice ad qs.length qs.length)::l) D pm ro) h K) B w0 (ap E (.slice ad qs.length qs.length) qs::kl') F)
 (hx:ev l x=v:=by conv=>lhs;whnf) (hlo:ev l lo=.int .i64 1:=by rfl) (hk:az (ap E v (q::qs)) kl kl':=by exact fB) (hz:E.n=size:=by rfl) (hn:Nat.blt d n=true:=by rfl) (hg:bM l g=true:=by rfl):
 R (λh=>aI P ds (⟨⟨some d,g,.Ck size x (some lo) none none⟩,[]⟩::rest) (act n l D pm ro) h K) B w0 kl F:=(ad5 hn hg hx hlo hz hk).h next
theorem UJ{x i:Operand}{v:Value}{xs:List Int}(k:Nat)(z:Int){kk:IntKind}{d2:Nat}(hz:xs[k]? =some z)
 (next:∀b o,R (λh=>aI P ds rest (act n ((d2,.int .i64 z)::(d,.pointer (some ⟨b,o,none⟩))::l) D pm ro) h K) B w0 kl F)
 (hx:ev l x=v:=by conv=>lhs;whnf) (hi:ev l i=.int kk (k:Int):=by rfl) (hk:az (ap ae v xs) kl kl':=by exact fB) (hn:Nat.blt d n=true:=by rfl) (hn2:Nat.blt d2 n=true:=by rfl):
 R (λh=>aI P ds (⟨⟨some d,none,.mX 1 x i⟩,[]⟩::⟨⟨some d2,none,.gI (.tmp d)⟩,[]⟩::rest) (act n l D pm ro) h K) B w0 kl F:=(ad6 hn rfl hn2 (λ_=>rfl) hx hi hk hz).h next
end
end
