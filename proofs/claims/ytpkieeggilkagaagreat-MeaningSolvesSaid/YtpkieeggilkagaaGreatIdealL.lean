/-
  The ideal machine, 57: loops over functions, seen from all states of a kind; functions that leave collected ends behind.
-/
import Derived.Test.YtpkieeggilkagaaGreatIdealK
set_option linter.unusedSimpArgs false
set_option linter.unusedVariables false
namespace Go.Ideal
variable {P:Program}
def zJb(P:Program)(cf:zt)(K:KR):KO:=fun o a h=>match zCP o with
 |none=>False
 |some m=>LEAVE P cf a.tmps a.defers m h fun r h''=>K r a.pm h''
theorem zNR{Y:Type}{f:FuncId}{args cap:List Value}{kl:List OA}{F:List zJ}{val:Y→Value}{kl':Y→List OA}{fs:Y→List zJ}{pr:Y→Prop}{c:zS}{m:Nat}{l0:List (Nat×Value)}(cf:zt)(hF:(zC3 P zDZ zBH).F f=some cf)
 (hb:∀B w0,R (fun h=>EV P c (act m l0 [] none none) h (zJb P cf (Left B w0 val kl' fs pr))) B w0 kl F)
 (h1:cf.body=c:=by conv=>lhs;(reduce;(try simp only[Int.reduceOfNat,Int.reduceNegSucc]))) (h2:zKa cf.ntmps (llen (args++cap))=m:=by conv=>lhs;whnf) (h3:zIc 0 (args++cap) []=l0:=by dsimp only[zIc,Nat.reduceAdd,List.append_nil,List.cons_append,List.nil_append]):FnC P (.func f) args cap kl F val kl' fs pr:=by
 intro B w s;obtain⟨fn,e1,e2⟩:=(zCd P zDZ zBH (fun f q h v h' hm=>by cases hm)).fn f cf hF;refine zKJ cf fn e1 e2 ?_;rw[zDA,h1,h2,h3];exact hb B w w s
section
variable {B:List Nat} {w0:Wd} {kl kl' klr:List OA} {F:List zJ} {K:KO} {n:Nat} {l:List (Nat×Value)} {D:List Deferred} {pm:Option FrameMode} {ro:Option Nat}
inductive Coll:List OA→List Deferred→List OA→Prop
 |nil {kl:List OA}:Coll kl [] kl
 |cons {kl kl' kl2:List OA} {r:Nat} {args:Array Value} {D:List Deferred} (h:Sel (pt r (.defs true)) kl kl') (t:Coll kl' D kl2):Coll kl ({target:=.collected r,args}::D) kl2
theorem Coll.leave{cf:zt}{ts:T Value}{Kr:Ret→IH→Prop}:∀{D:List Deferred} {kl kl2:List OA},Coll kl D kl2→(∀w',St B w0 kl2 F w'→∃v,z6 cf.results ts w'.h=some v∧Kr (.ok v) w'.h)→∀w,St B w0 kl F w→LEAVE P cf ts D .returning w.h Kr
 |_,_,_,.nil,hk,w,s=>by
  obtain⟨v,h1,h2⟩:=hk w s;exact .ret v h1 h2
 |_,_,_,.cons (r:=r) h t,hk,w,s=>by
  have s1:=s.sel h;refine .coll (by intro e;cases e) r s1.get.1 ?_;exact Coll.leave t hk _ (s1.write (o':=.defs false)).tail
theorem zQN{Y:Type}{o:Out}{cf:zt}{vs:List Value}{val:Y→Value}{k1:Y→List OA}{fs:Y→List zJ}{pr:Y→Prop}{kl2:List OA}(y:Y)(hD:Coll kl D kl2)(hr:RS l kl2 cf.results vs)(hv:zK8 vs=val y)(hp:pr y)(hk:SelL (k1 y) kl2 klr)(hF:Sub (fs y) F)
 (ho:o=.normal∨o=.ret):R (fun h=>zJb P cf (Left B w0 val k1 fs pr) o (act n l D none ro) h) B w0 kl F:=by
 intro w s;have key:LEAVE P cf (zBV l) D .returning w.h fun r h''=>Left B w0 val k1 fs pr r none h'':=by
  refine Coll.leave hD (fun w' s'=>⟨val y,?_,rfl,w',y,rfl,((s'.selL hk).drop).sub hF,rfl,hp⟩) w s;unfold z6;rw[hr.all s',← hv];match vs with
  |[]=>rfl
  |[v]=>rfl
  |_::_::_=>rfl
 rcases ho with rfl|rfl
 ·exact key
 ·exact key
def zDE(L:zBZ):zBZ:={L with state:=.busy}
def zEE(L:zBZ)(o:Out):zBZ:=match o with
 | .normal=>{L with state:=.ready,pending:=none}
 |o=>{L with state:=.done,pending:=some o}
def isN(o:Out):Bool:=match o with
 | .normal=>true
 |_=>false
def zFp(o:Out):Prop:=match o with
 | .panic _=>False
 |_=>True
def zTe(B:List Nat)(w0:Wd)(n:Nat)(l3:List (Nat×Value))(lo:Nat)(kl:List OA)(F:List zJ):KO:=fun o a h=>
 o=.normal∧a=act n l3 [] none (some lo)∧∃w:Wd,w.h=h∧St B w0 kl F w
theorem asg_end{lo:Nat}:R (fun h=>zTe B w0 n l lo kl F .normal (act n l [] none (some lo)) h) B w0 kl F:=fun w s=>⟨rfl,rfl,w,rfl,s⟩
def zCt{Y:Type}(B:List Nat)(w0:Wd)(lo:Nat)(L:zBZ)(out:Y→Out)(k1:Y→List OA)(fs:Y→List zJ)(pr:Y→Prop):KO:=fun o a h=>
 a.defers=[]∧∃(w:Wd) (y:Y),w.h=h∧o=out y∧zFp o∧St B w0 (pt lo (.loop (zDE L))::k1 y) (fs y) w∧pr y
theorem zMl{Y:Type}{lo:Nat}{L:zBZ}{out:Y→Out}{k1:Y→List OA}{fs:Y→List zJ}{pr:Y→Prop}{o:Out}{kl2:List OA}(y:Y)(ho:o=out y)(hn:zFp o)(hp:pr y)(hk:SelL (pt lo (.loop (zDE L))::k1 y) kl kl2)(hF:Sub (fs y) F):
 R (fun h=>zCt B w0 lo L out k1 fs pr o (act n l [] none ro) h) B w0 kl F:=fun w s=>⟨rfl,w,y,rfl,ho,hn,((s.selL hk).drop).sub hF,hp⟩
theorem zBY(n:Nat):∀(ps:List Tmp) (args:List Value) (l:List (Nat×Value)),ps.all (fun p=>Nat.blt p n)=true→ps.length=args.length→∃l2,zy n ps args (zBV l)=zBV l2∧l2=(ps.zip args).reverse++l
 |[],[],l,_,_=>⟨l,rfl,rfl⟩
 |p::ps,v::args,l,h,e=>by
  simp only[List.all_cons,Bool.and_eq_true]at h;obtain⟨l2,h1,h2⟩:=zBY n ps args ((p,v)::l) h.2 (by simpa using e);refine⟨l2,?_,by rw[h2];simp⟩;rw[← h1];show zy n ps args (cond (Nat.blt p n) ((zBV l).set p (some v)) (zBV l))=_;rw[h.1];rfl
theorem zO2{Y:Type}{lo:Nat}{L:zBZ}{args:List Value}{k1:List OA}{out:Y→Out}{k1':Y→List OA}{fs:Y→List zJ}{pr:Y→Prop}(l l3:List (Nat×Value))(hl:L.tmps=zBV l)(hst:L.state=.ready)(hps:L.params.all (fun p=>Nat.blt p L.n)=true)(hlen:L.params.length=args.length)
 (ha:∀B w0,R (fun h=>EV P L.assign (act L.n ((L.params.zip args).reverse++l) [] none (some lo)) h (zTe B w0 L.n l3 lo (pt lo (.loop L)::k1) F)) B w0 (pt lo (.loop L)::k1) F)
 (hb:∀B w0,R (fun h=>EV P L.body (act L.n l3 [] none (some lo)) h (zCt B w0 lo L out k1' fs pr)) B w0 (pt lo (.loop (zDE L))::k1) F):
 FnC P (.yield lo) args [] (pt lo (.loop L)::k1) F (fun y:Y=>.bool (isN (out y))) (fun y=>pt lo (.loop (zEE L (out y)))::k1' y) fs pr:=by
 intro B w s;obtain⟨l2,e1,e2⟩:=zBY L.n L.params args l hps hlen;refine .round lo rfl rfl L s.get.1 hlen.symm _ (by
  rw[hl];show EV P L.assign (zU.mk L.n (zy L.n L.params args (zBV l)) [] none (some lo)) w.h _;rw[e1,e2];exact ha B w w s) ?_ ?_
 ·rintro o a h ⟨rfl,rfl,w1,rfl,s1⟩;exact⟨rfl,L,s1.get.1,hst⟩
 ·rintro a h r1 ⟨_,rfl,w1,rfl,s1⟩ hr;have hr1:r1=L:=by
   have:=s1.get.1;rw[hr]at this;injection this with this;injection this
  subst hr1;have hb:=hb B w _ (s1.write (o':=.loop (zDE r1)));refine zG3 hb _ ?_;rintro o a h ⟨hd,w2,y,rfl,rfl,hn,s2,hp⟩;refine⟨zDE r1,s2.get.1,hd,?_⟩;have fin:∀o',isN o'=isN (out y)→zEE r1 o'=zEE r1 (out y)→Left B w (fun y:Y=>.bool (isN (out y))) (fun y=>pt lo (.loop (zEE r1 (out y)))::k1' y) fs pr (.ok (.bool (isN (out y)))) none (w2.h.set lo (.loop (zEE r1 (out y)))):=fun o' _ _=>
   ⟨rfl,_,y,rfl,s2.write,rfl,hp⟩
  cases ho:out y with
  |normal=>have:=fin .normal (by rw[ho]) (by rw[ho]);rw[ho]at this;exact this
  |exit j=>have:=fin (.exit j) (by rw[ho]) (by rw[ho]);rw[ho]at this;exact this
  |ret=>have:=fin .ret (by rw[ho]) (by rw[ho]);rw[ho]at this;exact this
  |panic ch=>rw[ho]at hn;exact hn.elim
theorem zIZ{Y:Type}{f:Operand}{ps:List Tmp}{assign body:zS}{fn:Fn}{first captured:List Value}{k1:List OA}{F1:List zJ}{valI:Y→Value}{out:Y→Out}{k1':Y→List OA}{fs:Y→List zJ}{pr:Y→Prop}
 (hf:ev l f=.func fn ⟨first⟩ ⟨captured⟩)
 (it:∀lo r,FnC P fn (first++[.func (.yield lo) #[] #[]]) captured (pt lo (.loop ⟨.ready,none,zBV l,n,ps,assign,body,r⟩)::k1) F1 valI (fun y=>pt lo (.loop (zEE ⟨.ready,none,zBV l,n,ps,assign,body,r⟩ (out y)))::k1' y) fs pr)
 (hk:SelL k1 kl klr) (hF:Sub F1 F)
 (next:∀r y,pr y→R (fun h=>K (out y) (act n l ({target:=.collected r,args:= #[]}::D) pm none) h) B w0 (k1' y++(pt r (.defs true)::klr)) (fs y++F)):
 R (fun h=>EV P (.rangeFunc f ps assign body) (act n l D pm none) h K) B w0 kl F:=by
 intro w s;let L:Nat→zBZ:=fun r=>⟨.ready,none,zBV l,n,ps,assign,body,r⟩
 let r:=w.h.next
 let w1:=w.new (.defs true)
 have s1:St B w0 (pt r (.defs true)::kl) F w1:=s.new _;let lo:=w1.h.next
 let w2:=w1.new (.loop (L r))
 have s2:St B w0 (pt lo (.loop (L r))::pt r (.defs true)::kl) F w2:=s1.new _;have s3:St B w0 ((pt lo (.loop (L r))::k1)++(pt r (.defs true)::klr)) F w2:=s2.selL (k:=pt lo (.loop (L r))::k1) (kl':=pt r (.defs true)::klr) (.cons .here (by
  have:∀{k kl klr:List OA} (A:OA),SelL k kl klr→SelL k (A::kl) (A::klr):=by
   intro k kl klr A h;induction h with
   |nil=>exact .nil
   |cons h1 _ ih=>exact .cons (.there h1) ih
  exact this _ hk))
 obtain⟨S,h1,h2,h3⟩:=s3.own;obtain⟨S1,S2,q1,q2,hp⟩:=h1.selL (k:=pt lo (.loop (L r))::k1) (kl':=pt r (.defs true)::klr) (by
  have:∀(k kr:List OA),SelL k (k++kr) kr:=by
   intro k kr;induction k with
   |nil=>exact .nil
   |cons A k ih=>exact .cons .here ih
  exact this _ _)
 have hsub:∀i∈S1,i∈S:=fun i hi=>hp.mem_iff.2 (List.mem_append_left _ hi);have st1:St S1 w2 (pt lo (.loop (L r))::k1) F1 w2:=⟨⟨Nat.le_refl _,fun _ _ _=>rfl,fun _ _=>rfl⟩,Wd.Le.refl w2,fun i _ hz=>.inl hz,⟨S1,q1,(List.nodup_append.1 (hp.nodup h2)).1,fun i hi=>⟨.inr hi,(h3 i (hsub i hi)).2⟩⟩,fun f hf=>s2.facts f (hF.mem f hf)⟩
 have hc:=it lo r S1 w2 st1;refine .rangeFunc fn first captured (by rw[zi];exact hf) (act n l ({target:=.collected r,args:= #[]}::D) pm none) w1.h r (.inl ⟨rfl,rfl,rfl,rfl⟩) (Left S1 w2 valI (fun y=>pt lo (.loop (zEE (L r) (out y)))::k1' y) fs pr) ?_ ?_ ?_
 ·rw[zb];exact hc
 ·rintro v pm' h' ⟨rfl,w',y,rfl,c,hv,hpr⟩;have sc:St B w0 ((pt lo (.loop (zEE (L r) (out y)))::k1' y)++(pt r (.defs true)::klr)) (fs y++F) w':=s3.call (k1:=pt lo (.loop (L r))::k1) (F1:=F1) ⟨S,hp,h2,h3⟩ q2 c;have hg:=(show St B w0 (pt lo (.loop (zEE (L r) (out y)))::(k1' y++(pt r (.defs true)::klr))) (fs y++F) w' from sc).get;refine⟨zEE (L r) (out y),hg.1,?_,?_⟩
  ·cases out y<;>simp[zEE]
  ·have e:(zEE (L r) (out y)).pending.getD .normal=out y:=by cases out y<;>rfl
   rw[e];exact next r y hpr _ (St.write (o':=.loop {zEE (L r) (out y)with state:=.exhausted}) sc).tail
 ·rintro ch pm' h' ⟨rfl,w',y,rfl,c,hv,hpr⟩;cases hv
end
end Go.Ideal
namespace Go.Ideal
variable {P:Program}
def zAf{S α:Type}(step:S→α→S×Bool):S→List α→S
 |s,[]=>s
 |s,x::xs=>match step s x with
  |(s',true)=>zAf step s' xs
  |(s',false)=>s'
def zBu{S α:Type}(step:S→α→S×Out):S→List α→S×Out
 |s,[]=>(s,.normal)
 |s,x::xs=>match step s x with
  |(s',.normal)=>zBu step s' xs
  |(s',o)=>(s',o)
def zGI{α:Type}(P:Program)(val:α→Value)(fn:Fn)(first cap:List Value)(F:List zJ)(xs:List α):Prop:=
 ∀(S:Type) (inv:S→List OA) (ok:Nat→S→Prop) (step:S→α→S×Bool) (s0:S) (yfn:Fn) (y1 y2:List Value) (F':List zJ),ok 0 s0→(∀k s x,ok k s→xs[k]? =some x→(step s x).2=true→ok (k+1) (step s x).1)→
  (∀k s x,ok k s→xs[k]? =some x→FnC P yfn (y1++[val x]) y2 (inv s) F' (fun _:Unit=>.bool (step s x).2) (fun _=>inv (step s x).1) (fun _=>[]) (fun _=>True))→
  FnC P fn (first++[.func yfn ⟨y1⟩ ⟨y2⟩]) cap (inv s0) (F++F') (fun _:Unit=>.tuple ⟨[]⟩) (fun _=>inv (zAf step s0 xs)) (fun _=>[]) (fun _=>True)
theorem Sub.refl'{α:Type}:∀(l k:List α),Sub l (k++l)
 |[],_=>.nil
 |a::l,k=>.cons (List.mem_append_right _ (List.mem_cons_self ..)) (by have:=Sub.refl' l (k++[a]);rwa [List.append_assoc]at this)
theorem Sub.app{α:Type}:∀{k1 k2 l:List α},Sub k1 l→Sub k2 l→Sub (k1++k2) l
 |_,_,_,.nil,h=>h
 |_,_,_,.cons h h1,h2=>.cons h (h1.app h2)
section
variable {B:List Nat} {w0:Wd} {kl kl' klr:List OA} {F:List zJ} {K:KO} {n:Nat} {l:List (Nat×Value)} {D:List Deferred} {pm:Option FrameMode} {ro:Option Nat}
theorem zDK{S α:Type}{step:S→α→S×Out}:∀(xs:List α) (s:S),zAf (fun(so:S×Out) x=>(step so.1 x,isN (step so.1 x).2)) (s,Out.normal) xs=zBu step s xs
 |[],s=>rfl
 |x::xs,s=>by
  have ih:=zDK (step:=step) xs;simp only[zAf,zBu];cases h:step s x with
  |mk s' o=>
   cases o with
   |normal=>simp only[isN];exact ih s'
   |_=>simp only[isN]
theorem zQz{S α:Type}{f:Operand}{ps:List Tmp}{assign body:zS}{fn:Fn}{first captured:List Value}{val:α→Value}{F1:List zJ}{xs:List α}(step:S→α→S×Out)(inv:S→List OA)(ok:Nat→S→Prop)(s0:S)(h0:ok 0 s0)(hok:∀k s x,ok k s→xs[k]? =some x→(step s x).2=.normal→ok (k+1) (step s x).1)(hit:zGI P val fn first captured F1 xs)
 (hf:ev l f=.func fn ⟨first⟩ ⟨captured⟩) (hps:ps.all (fun p=>Nat.blt p n)=true) (hlen:ps.length=1) (hk:SelL (inv s0) kl klr) (hF:Sub F1 F) (hpan:∀s x,zFp (step s x).2)
 (l3:α→List (Nat×Value))
 (ha:∀(s:S) (x:α) (lo:Nat) (o:z4) B w0,R (fun h=>EV P assign (act n ((ps.zip [val x]).reverse++l) [] none (some lo)) h (zTe B w0 n (l3 x) lo (pt lo o::inv s) F)) B w0 (pt lo o::inv s) F)
 (hb:∀(k:Nat) (s:S) (x:α) (lo:Nat) (L:zBZ) B w0,ok k s→xs[k]? =some x→R (fun h=>EV P body (act n (l3 x) [] none (some lo)) h (zCt B w0 lo L (fun _:Unit=>(step s x).2) (fun _=>inv (step s x).1) (fun _=>[]) (fun _=>True))) B w0 (pt lo (.loop (zDE L))::inv s) F)
 (next:∀r,R (fun h=>K (zBu step s0 xs).2 (act n l ({target:=.collected r,args:= #[]}::D) pm none) h) B w0 (inv (zBu step s0 xs).1++(pt r (.defs true)::klr)) F):
 R (fun h=>EV P (.rangeFunc f ps assign body) (act n l D pm none) h K) B w0 kl F:=by
 refine zIZ (Y:=Unit) (k1:=inv s0) (F1:=F1++F) (valI:=fun _=>.tuple ⟨[]⟩) (out:=fun _=>(zBu step s0 xs).2) (k1':=fun _=>inv (zBu step s0 xs).1) (fs:=fun _=>[]) (pr:=fun _=>True) hf ?_ hk (hF.app (Sub.refl' F [])) (fun r y _=>next r);intro lo r;have:=hit (S×Out) (fun so=>pt lo (.loop (zEE ⟨.ready,none,zBV l,n,ps,assign,body,r⟩ so.2))::inv so.1) (fun k so=>so.2=.normal∧ok k so.1) (fun so x=>(step so.1 x,isN (step so.1 x).2)) (s0,.normal) (.yield lo) [] [] F ⟨rfl,h0⟩
  (fun k so x ho hx h=>by
    have h:isN (step so.1 x).2=true:=h;have hn:(step so.1 x).2=.normal:=by
     cases e:(step so.1 x).2 with
     |normal=>rfl
     |_=>rw[e]at h;cases h
    exact⟨hn,hok k so.1 x ho.2 hx hn⟩)
  (fun k so x ho hx=>by
    obtain⟨s,o⟩:=so;obtain⟨hn,ho⟩:=ho;have hn:o=.normal:=hn;subst hn;exact zO2 (Y:=Unit) (L:=⟨.ready,none,zBV l,n,ps,assign,body,r⟩) (args:=[val x]) (k1:=inv s) (out:=fun _=>(step s x).2) (k1':=fun _=>inv (step s x).1) (fs:=fun _=>[]) (pr:=fun _=>True) l (l3 x) rfl rfl hps hlen
     (fun B w0=>ha s x lo _ B w0) (fun B w0=>hb k s x lo _ B w0 ho hx))
 rw[zDK]at this;exact this
end
end Go.Ideal
namespace Go.Ideal
variable {P:Program} {ρ:Operand→Value}
theorem wrapN{m:Nat}(h:m<9223372036854775808):IntKind.i64.wrap (m:Int)=m:=wrap64 (by omega) (by omega)
theorem zTy{x y:Operand}{t:TypeId}{a b:Nat}(hx:ρ x=.int .i64 (a:Int))(hy:ρ y=.int .i64 (b:Int))(hb:b<64):Pu P ρ (.bin .shr t x y) (.int .i64 ((a>>>b:Nat):Int)):=fun h=>by
 simp only[COp.run,hx,hy];rw[zBA (op:=.shr) (v:=.int .i64 ((a>>>b:Nat):Int)) rfl (by
  show zF P (Op.shift .shr .i64 a .i64 b)=_;unfold Op.shift;rw[if_neg (by omega)];show some (Value.int .i64 ((a:Int).fdiv (2^(min (b:Int).toNat 64))))=_;rw[show min (b:Int).toNat 64=b by simp;omega,Nat.shiftRight_eq_div_pow];congr 2;rw[show((2:Int)^b)=((2^b:Nat):Int)by simp,Int.fdiv_eq_ediv_of_nonneg _ (Int.natCast_nonneg _)];simp) rfl]
theorem zOK{x y:Operand}{t:TypeId}{a b:Nat}(hx:ρ x=.int .i64 (a:Int))(hy:ρ y=.int .i64 (b:Int))(hb:b<64)(hr:a<<<b<9223372036854775808):Pu P ρ (.bin .shl t x y) (.int .i64 ((a<<<b:Nat):Int)):=fun h=>by
 simp only[COp.run,hx,hy];rw[zBA (op:=.shl) (v:=.int .i64 ((a<<<b:Nat):Int)) rfl (by
  show zF P (Op.shift .shl .i64 a .i64 b)=_;unfold Op.shift;rw[if_neg (by omega)];show some (Value.int .i64 (IntKind.i64.wrap ((a:Int)*2^(min (b:Int).toNat 64))))=_;rw[show min (b:Int).toNat 64=b by simp;omega];rw[show((a:Int)*2^b)=((a<<<b:Nat):Int)by rw[Nat.shiftLeft_eq];simp,wrapN hr]) rfl]
theorem zJy{a:Nat}(h:a<9223372036854775808):(BitVec.ofInt 64 (a:Int)).toNat=a:=by
 simp[BitVec.toNat_ofInt];omega
theorem zUE{x y:Operand}{t:TypeId}{a b:Nat}(hx:ρ x=.int .i64 (a:Int))(hy:ρ y=.int .i64 (b:Int))(ha:a<9223372036854775808)(hb:b<9223372036854775808):Pu P ρ (.bin .and t x y) (.int .i64 ((a&&&b:Nat):Int)):=fun h=>by
 simp only[COp.run,hx,hy];rw[zBA (op:=.and) (v:=.int .i64 ((a&&&b:Nat):Int)) rfl (by
  show zF P (Op.intBits .and .i64 a b)=_;show some (Value.int .i64 (IntKind.i64.wrap ((BitVec.ofInt 64 (a:Int)&&&BitVec.ofInt 64 (b:Int)).toNat:Int)))=_;rw[BitVec.toNat_and,zJy ha,zJy hb,wrapN (Nat.lt_of_le_of_lt Nat.and_le_left ha)]) rfl]
theorem zU0{x y:Operand}{t:TypeId}{a b:Nat}(hx:ρ x=.int .i64 (a:Int))(hy:ρ y=.int .i64 (b:Int))(ha:a<9223372036854775808)(hb:b<9223372036854775808):Pu P ρ (.bin .or t x y) (.int .i64 ((a|||b:Nat):Int)):=fun h=>by
 simp only[COp.run,hx,hy];rw[zBA (op:=.or) (v:=.int .i64 ((a|||b:Nat):Int)) rfl (by
  show zF P (Op.intBits .or .i64 a b)=_;show some (Value.int .i64 (IntKind.i64.wrap ((BitVec.ofInt 64 (a:Int)|||BitVec.ofInt 64 (b:Int)).toNat:Int)))=_;have:a|||b<2^63:=Nat.or_lt_two_pow (by omega) (by omega);rw[BitVec.toNat_or,zJy ha,zJy hb,wrapN (by omega)]) rfl]
end Go.Ideal
namespace Go.Ideal
variable {P:Program}
def exA{X:Type}(f:X→List OA):OA:=⟨fun w S=>∃x,zAY w (f x) S,fun a h ⟨x,hx⟩=>⟨x,zAY.loc a h hx⟩⟩
theorem zP1{ρ:Operand→Value}{x y:Operand}{a b:Int}(hx:ρ x=.int .i64 a)(hy:ρ y=.int .i64 b):Pu P ρ (.minmax true [x,y]) (.int .i64 (max a b)):=fun h=>by
 have e:zFm ρ [x,y]=[.int .i64 a,.int .i64 b]:=by rw[zBa];simp[hx,hy]
 simp only[COp.run,e,sameK,cond];by_cases hb:b≤a
 ·rw[zAw,decide_eq_true hb,Int.max_eq_left hb]
 ·have:leZ b a=false:=by rw[zAw,decide_eq_false hb]
  rw[this,Int.max_eq_right (by omega)]
section
variable {B:List Nat} {w0:Wd} {kl kl' klr:List OA} {F:List zJ} {K:KO} {n:Nat} {l:List (Nat×Value)} {D:List Deferred} {pm:Option FrameMode} {ro:Option Nat}
theorem zEM{X:Type}{f:X→List OA}{kl2:X→List OA}{Q:IH→Prop}(hk:autoParam (Sel (exA f) kl kl') zBN._auto_1)(ha:∀x,AppR (f x) kl' (kl2 x):=by intro x;repeat (first|exact AppR.nil|apply AppR.cons|exact AppR.self|exact AppR.app))(h:∀x,R Q B w0 (kl2 x) F):R Q B w0 kl F:=fun w s=>by
 obtain⟨S,⟨S1,S2,⟨x,q1⟩,q2,e⟩,h2,h3⟩:=(s.sel hk).own;refine h x w ?_;rw[← (ha x).eq];exact⟨s.agree,s.le,s.zold,⟨S,by rw[e];exact q1.app q2,h2,h3⟩,s.facts⟩
theorem zBb{X:Type}(f:X→List OA)(x:X){Q:IH→Prop}(hk:autoParam (SelL (f x) kl klr) zBX._auto_1)(h:R Q B w0 (exA f::klr) F):R Q B w0 kl F:=fun w s=>by
 obtain⟨S,h1,h2,h3⟩:=s.own;obtain⟨S1,S2,q1,q2,hp⟩:=h1.selL hk;exact h w ⟨s.agree,s.le,s.zold,⟨S1++S2,⟨S1,S2,⟨x,q1⟩,q2,rfl⟩,hp.nodup h2,fun i hi=>h3 i (hp.mem_iff.2 hi)⟩,s.facts⟩
theorem zX{Q:IH→Prop}(g:zJ)(hg:∀w:Wd,(∀f∈F,f.p w)→g.p w)(h:R Q B w0 kl (g::F)):R Q B w0 kl F:=fun w s=>
 h w ⟨s.agree,s.le,s.zold,s.own,fun f hf=>by
  rcases List.mem_cons.1 hf with rfl|hf
  ·exact hg w s.facts
  ·exact s.facts f hf⟩
theorem zFH{α:Type}{E:Enc α}{w:Wd}{b f c:Nat}{v:Value}{xs:List α}(h1:(fRaw b 0 [v]).p w)(h2:(fSl E v xs).p w)(hc:1≤c:=by first|exact Nat.le_refl _|omega)(hf:f=0∨f=1:=by first|exact .inl rfl|exact .inr rfl):(fSl (slE E) (.slice (some ⟨b,0,some f⟩) 1 c) [xs]).p w:=by
 obtain⟨cells,q1,q2⟩:=h1;refine .inr ⟨b,0,f,c,cells,⟨rfl,hc,hf⟩,q1,fun k x hk=>?_⟩;match k,hk with
 |0,hk=>
  cases hk;refine⟨v,fun j u hj=>?_,fun g hg=>by rw[List.mem_singleton.1 hg];exact h2⟩;have:=q2 j u hj;simpa using this
theorem zFV{Y:Type}{f:FuncId}{args cap:List Value}{kl:List OA}{F:List zJ}{val:Y→Value}{kl':Y→List OA}{fs:Y→List zJ}{pr:Y→Prop}{c:zS}{m:Nat}{l0:List (Nat×Value)}(cf:zt)(hF:(zC3 P zDZ zBH).F f=some cf)
 (hb:∀B w0,R (fun h=>EV P c (act m l0 [] none none) h (zJb P cf (Left B w0 val kl' fs pr))) B w0 kl F)
 (h1:cf.body=c:=by conv=>lhs;(reduce;(try simp only[Int.reduceOfNat,Int.reduceNegSucc]))) (h2:zKa cf.ntmps (llen (args++cap))=m:=by conv=>lhs;whnf) (h3:zIc 0 (args++cap) []=l0:=by dsimp only[zIc,Nat.reduceAdd,List.append_nil,List.cons_append,List.nil_append]):FnC P (.func f) args cap kl F val kl' fs pr:=
 zNR cf hF hb h1 h2 h3
theorem zEZ{Y:Type}{o:Out}{cf:zt}{vs:List Value}{val:Y→Value}{k1:Y→List OA}{fs:Y→List zJ}{pr:Y→Prop}{kl2:List OA}(y:Y)(hD:Coll kl D kl2:=by repeat (first|exact Coll.nil|(apply Coll.cons;(focus (repeat (first|with_reducible exact Sel.here|with_reducible apply Sel.there|with_reducible apply Sel.app))))))
 (hr:autoParam (RS l kl2 cf.results vs) aRS._auto_1) (hv:zK8 vs=val y) (hp:pr y)
 (hk:autoParam (SelL (k1 y) kl2 klr) zBX._auto_1) (hF:autoParam (Sub (fs y) F) zFn._auto_1)
 (ho:o=.normal∨o=.ret:=by first|exact .inl rfl|exact .inr rfl):R (fun h=>zJb P cf (Left B w0 val k1 fs pr) o (act n l D none ro) h) B w0 kl F:=
 zQN y hD hr hv hp hk hF ho
theorem zSJ{S α:Type}{f:Operand}{ps:List Tmp}{assign body:zS}{fn:Fn}{first captured:List Value}{val:α→Value}{F1:List zJ}{xs:List α}{l3:α→List (Nat×Value)}(step:S→α→S×Out)(inv:S→List OA)(ok:Nat→S→Prop)(s0:S)(h0:ok 0 s0)(hok:∀k s x,ok k s→xs[k]? =some x→(step s x).2=.normal→ok (k+1) (step s x).1)(hit:zGI P val fn first captured F1 xs)
 (hb:∀(k:Nat) (s:S) (x:α) (lo:Nat) (L:zBZ) B w0,ok k s→xs[k]? =some x→R (fun h=>EV P body (act n (l3 x) [] none (some lo)) h (zCt B w0 lo L (fun _:Unit=>(step s x).2) (fun _=>inv (step s x).1) (fun _=>[]) (fun _=>True))) B w0 (pt lo (.loop (zDE L))::inv s) F)
 (next:∀r,R (fun h=>K (zBu step s0 xs).2 (act n l ({target:=.collected r,args:= #[]}::D) pm none) h) B w0 (inv (zBu step s0 xs).1++(pt r (.defs true)::klr)) F)
 (hpan:∀s x,zFp (step s x).2)
 (ha:∀(s:S) (x:α) (lo:Nat) (o:z4) B w0,R (fun h=>EV P assign (act n ((ps.zip [val x]).reverse++l) [] none (some lo)) h (zTe B w0 n (l3 x) lo (pt lo o::inv s) F)) B w0 (pt lo o::inv s) F:=by intro s x lo o B w0;refine go ?_;exact asg_end)
 (hf:ev l f=.func fn ⟨first⟩ ⟨captured⟩:=by rfl) (hps:ps.all (fun p=>Nat.blt p n)=true:=by rfl) (hlen:ps.length=1:=by rfl)
 (hk:autoParam (SelL (inv s0) kl klr) zBX._auto_1) (hF:autoParam (Sub F1 F) zFn._auto_1):
 R (fun h=>EV P (.rangeFunc f ps assign body) (act n l D pm none) h K) B w0 kl F:=
 zQz step inv ok s0 h0 hok hit hf hps hlen hk hF hpan l3 ha hb next
theorem zBp{Y:Type}{lo:Nat}{L:zBZ}{out:Y→Out}{k1:Y→List OA}{fs:Y→List zJ}{pr:Y→Prop}{o:Out}{kl2:List OA}(y:Y)(ho:o=out y)(hn:zFp o)(hp:pr y)
 (hk:autoParam (SelL (pt lo (.loop (zDE L))::k1 y) kl kl2) zBX._auto_1) (hF:autoParam (Sub (fs y) F) zFn._auto_1):
 R (fun h=>zCt B w0 lo L out k1 fs pr o (act n l [] none ro) h) B w0 kl F:=zMl y ho hn hp hk hF
theorem zAv{α:Type}(E:Enc α){ds:List Tmp}{rest:List zQ}{d:Nat}{g:Option (Tmp×Bool)}{e:TypeId}{size bytes b':Nat}{s x:Operand}{v:Value}{xs:List α}(a:α)(y:E.Y){cs:List Value}{k1 k2:List OA}
 (hm:(xs.length+1)*bytes≤1073741824∧(xs.length+1)*size≤1073741824∧xs.length+1≤1073741824)
 (next:∀ad,R (fun h=>OPS P ds rest (act n ((d,.slice ad (xs.length+1) (xs.length+1))::l) D pm ro) h K) B w0 (ap E (.slice ad (xs.length+1) (xs.length+1)) (xs++[a])::k2) F)
 (hn:Nat.blt d n=true:=by rfl) (hg:gok l g=true:=by rfl)
 (hs:ev l s=v:=by conv=>lhs;whnf) (hx:ev l x=.slice (some ⟨b',0,some 0⟩) 1 1:=by rfl) (hk:autoParam (Sel (ap E v xs) kl k1) zBN._auto_1) (hc:autoParam (Sel (pt b' (.cells cs)) k1 k2) zBN._auto_1) (hp:cs=E.pat a y:=by rfl) (hF:autoParam (Sub (E.fs a y) F) zFn._auto_1) (hz:E.n=size:=by rfl):
 R (fun h=>OPS P ds (⟨⟨some d,g,.append e size bytes s x⟩,[]⟩::rest) (act n l D pm ro) h K) B w0 kl F:=
 (zSd hn hg hs hx hk hc hp hF hz hm).h fun v' w st=>by
   obtain⟨S,⟨S1,S2,q,_⟩,_⟩:=st.own;obtain⟨ad,e⟩:=zIo q;rw[List.length_append,List.length_singleton]at e;subst e;exact next ad w st
section
variable {ds:List Tmp} {rest:List zQ} {d:Nat} {g:Option (Tmp×Bool)}
theorem q_p{op:COp}{v:Value}(hp:Pu P (ev l) op v)(next:R (fun h=>OPS P ds rest (act n ((d,v)::l) D pm ro) h K) B w0 kl F)(hn:Nat.blt d n=true:=by rfl)(hg:gok l g=true:=by rfl):
 R (fun h=>OPS P ds (⟨⟨some d,g,op⟩,[]⟩::rest) (act n l D pm ro) h K) B w0 kl F:=(d_p hn hg hp).h next
theorem zNl{e:TypeId}{size bytes:Nat}{zero:List Value}{x y:Operand}(m:Nat)(hm:m*bytes≤1073741824∧m*size≤1073741824∧m≤1073741824)
 (next:∀b,R (fun h=>OPS P ds rest (act n ((d,.slice (some ⟨b,0,some 0⟩) m m)::l) D pm ro) h K) B w0 (pt b (.cells (zeros zero m))::kl) F)
 (hx:ev l x=.int .i64 (m:Int):=by rfl) (hy:ev l y=.int .i64 (m:Int):=by rfl) (hn:Nat.blt d n=true:=by rfl) (hg:gok l g=true:=by rfl):
 R (fun h=>OPS P ds (⟨⟨some d,g,.mkslice e size bytes zero x y⟩,[]⟩::rest) (act n l D pm ro) h K) B w0 kl F:=(zUc hn hg hx hy hm).h next
theorem zC4{x y:Operand}{b o:Nat}{cs cs':List Value}{v:Value}(hs:cs.set o v=cs')(ho:o<cs.length)
 (next:R (fun h=>OPS P ds rest (act n l D pm ro) h K) B w0 (pt b (.cells cs')::kl') F)
 (hx:ev l x=.pointer (some ⟨b,o,none⟩):=by rfl) (hy:ev l y=v:=by rfl) (hv:cellsOf v=some [v]:=by rfl) (hk:autoParam (Sel (pt b (.cells cs)) kl kl') zBN._auto_1) (hg:gok l g=true:=by rfl):
 R (fun h=>OPS P ds (⟨⟨none,g,.store 1 x y⟩,[]⟩::rest) (act n l D pm ro) h K) B w0 kl F:=by subst hs;exact(zPO hg hx hy hv hk ho).h next
theorem zDw{x:Operand}{b o:Nat}{cs:List Value}(v:Value)(hv:cs[o]? =some v)
 (next:R (fun h=>OPS P ds rest (act n ((d,v)::l) D pm ro) h K) B w0 kl F)
 (hx:ev l x=.pointer (some ⟨b,o,none⟩):=by rfl) (hk:autoParam (Sel (pt b (.cells cs)) kl kl') zBN._auto_1) (hn:Nat.blt d n=true:=by rfl) (hg:gok l g=true:=by rfl):
 R (fun h=>OPS P ds (⟨⟨some d,g,.load1 x⟩,[]⟩::rest) (act n l D pm ro) h K) B w0 kl F:=(zRM hn hg hx hk hv).h next
theorem zTH{α:Type}(E:Enc α){x lo:Operand}{v:Value}{q:α}{qs:List α}{size:Nat}
 (next:∀ad,R (fun h=>OPS P ds rest (act n ((d,.slice ad qs.length qs.length)::l) D pm ro) h K) B w0 (ap E (.slice ad qs.length qs.length) qs::kl') F)
 (hx:ev l x=v:=by conv=>lhs;whnf) (hlo:ev l lo=.int .i64 1:=by rfl) (hk:autoParam (Sel (ap E v (q::qs)) kl kl') zBN._auto_1) (hz:E.n=size:=by rfl) (hn:Nat.blt d n=true:=by rfl) (hg:gok l g=true:=by rfl):
 R (fun h=>OPS P ds (⟨⟨some d,g,.slSl size x (some lo) none none⟩,[]⟩::rest) (act n l D pm ro) h K) B w0 kl F:=(zSz hn hg hx hlo hz hk).h next
theorem zQG{x i:Operand}{v:Value}{xs:List Int}(k:Nat)(z:Int){kk:IntKind}{d2:Nat}(hz:xs[k]? =some z)
 (next:∀b o,R (fun h=>OPS P ds rest (act n ((d2,.int .i64 z)::(d,.pointer (some ⟨b,o,none⟩))::l) D pm ro) h K) B w0 kl F)
 (hx:ev l x=v:=by conv=>lhs;whnf) (hi:ev l i=.int kk (k:Int):=by rfl) (hk:autoParam (Sel (ap intE v xs) kl kl') zBN._auto_1) (hn:Nat.blt d n=true:=by rfl) (hn2:Nat.blt d2 n=true:=by rfl):
 R (fun h=>OPS P ds (⟨⟨some d,none,.idxSl 1 x i⟩,[]⟩::⟨⟨some d2,none,.load1 (.tmp d)⟩,[]⟩::rest) (act n l D pm ro) h K) B w0 kl F:=(zSh hn rfl hn2 (fun _=>rfl) hx hi hk hz).h next
end
end
end Go.Ideal
