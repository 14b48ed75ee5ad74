/-
  The ideal machine, 57: loops over functions, seen from all states of a kind; functions that leave collected ends behind.
-/
import Derived.Test.YtbdaaopebgcnaaaGreatDoorIdealKM
set_option linter.all false
namespace Go.Ideal
variable {P:Program}
def tC(P:Program)(cf:eU)(K:KR):KO:=λo a h=>match uq o with
 |none=>False
 |some m=>LEAVE P cf a.tmps a.defers m h λr h''=>K r a.pm h''
theorem aby{Y:Type}{f:FuncId}{args cap:List Value}{kl:List OA}{F:List aD}{val:Y->Value}{kl':Y->List OA}{fs:Y->List aD}{pr:Y->Prop}{c:bV}{m:Nat}{l0:List (Nat×Value)}(cf:eU)(hF:(qj P o8 qW).F f=some cf)
 (hb:∀B w0,R (λh=>EV P c (act m l0 [] none none) h (tC P cf (Left B w0 val kl' fs pr))) B w0 kl F)
 (h1:cf.body=c:=by conv=>lhs;(reduce;(try simp only[Int.reduceOfNat,Int.reduceNegSucc]))) (h2:qh cf.ntmps (gX (args++cap))=m:=by conv=>lhs;whnf) (h3:nY 0 (args++cap) []=l0:=by dsimp only[nY,Nat.reduceAdd,List.append_nil,List.cons_append,List.nil_append]):aX P (.func f) args cap kl F val kl' fs pr:=by
 intro B w s;obtain⟨fn,e1,e2⟩:=(CW P o8 qW (λf q h v h' hm=>by cases hm)).fn f cf hF;refine QF cf fn e1 e2 ?_;rw[Lp,h1,h2,h3];exact hb B w w s
section
variable {B:List Nat} {w0:Wd} {kl kl' bE:List OA} {F:List aD} {K:KO} {n:Nat} {l:List (Nat×Value)} {D:List Deferred} {pm:Option FrameMode} {ro:Option Nat}
inductive lm:List OA->List Deferred->List OA->Prop
 |nil {kl:List OA}:lm kl [] kl
 |cons {kl kl' fq:List OA} {r:Nat} {args:Array Value} {D:List Deferred} (h:ai (pt r (.gM true)) kl kl') (t:lm kl' D fq):lm kl ({target:=.collected r,args}::D) fq
theorem lm.leave{cf:eU}{ts:T Value}{Kr:iH->IH->Prop}:∀{D:List Deferred} {kl fq:List OA},lm kl D fq->(∀w',St B w0 fq F w'->∃v,oW cf.results ts w'.h=some v/\Kr (.ok v) w'.h)->∀w,St B w0 kl F w->LEAVE P cf ts D .returning w.h Kr
 |_,_,_,.nil,hk,w,s=>by
  obtain⟨v,h1,h2⟩:=hk w s;exact .ret v h1 h2
 |_,_,_,.cons (r:=r) h t,hk,w,s=>by
  have s1:=s.fC h;refine .coll (by intro e;cases e) r s1.get.1 ?_;exact lm.leave t hk _ (s1.write (o':=.gM false)).tail
theorem abz{Y:Type}{o:Out}{cf:eU}{vs:List Value}{val:Y->Value}{k1:Y->List OA}{fs:Y->List aD}{pr:Y->Prop}{fq:List OA}(y:Y)(hD:lm kl D fq)(hr:RS l fq cf.results vs)(hv:rG vs=val y)(hp:pr y)(hk:aI (k1 y) fq bE)(hF:Sub (fs y) F)
 (ho:o=.normal\/o=.ret):R (λh=>tC P cf (Left B w0 val k1 fs pr) o (act n l D none ro) h) B w0 kl F:=by
 intro w s;have key:LEAVE P cf (fJ l) D .returning w.h λr h''=>Left B w0 val k1 fs pr r none h'':=by
  refine lm.leave hD (λw' s'=>⟨val y,?_,rfl,w',y,rfl,((s'.jJ hk).drop).sub hF,rfl,hp⟩) w s;unfold oW;rw[hr.all s',<- hv];match vs with
  |[]=>rfl
  |[v]=>rfl
  |_::_::_=>rfl
 rcases ho with rfl|rfl
 ·exact key
 ·exact key
def uB(L:lT):lT:={L with state:=.busy}
def ku(L:lT)(o:Out):lT:=match o with
 | .normal=>{L with state:=.ready,pending:=none}
 |o=>{L with state:=.done,pending:=some o}
def kP(o:Out):Bool:=match o with
 | .normal=>true
 |_=>false
def yL(o:Out):Prop:=match o with
 | .panic _=>False
 |_=>True
def yM{Y:Type}(B:List Nat)(w0:Wd)(lo:Nat)(L:lT)(out:Y->Out)(k1:Y->List OA)(fs:Y->List aD)(pr:Y->Prop):KO:=λo a h=>
 a.defers=[]/\∃(w:Wd) (y:Y),w.h=h/\o=out y/\yL o/\St B w0 (pt lo (.loop (uB L))::k1 y) (fs y) w/\pr y
theorem abA{Y:Type}{lo:Nat}{L:lT}{out:Y->Out}{k1:Y->List OA}{fs:Y->List aD}{pr:Y->Prop}{o:Out}{fq:List OA}(y:Y)(ho:o=out y)(hn:yL o)(hp:pr y)(hk:aI (pt lo (.loop (uB L))::k1 y) kl fq)(hF:Sub (fs y) F):
 R (λh=>yM B w0 lo L out k1 fs pr o (act n l [] none ro) h) B w0 kl F:=λw s=>⟨rfl,w,y,rfl,ho,hn,((s.jJ hk).drop).sub hF,hp⟩
theorem Q8(n:Nat):∀(ps:List Tmp) (args:List Value) (l:List (Nat×Value)),ps.all (λp=>Nat.blt p n)=true->ps.length=args.length->∃l2,sG n ps args (fJ l)=fJ l2/\l2=(ps.zip args).reverse++l
 |[],[],l,_,_=>⟨l,rfl,rfl⟩
 |p::ps,v::args,l,h,e=>by
  simp only[yg,fD]at h;obtain⟨l2,h1,h2⟩:=Q8 n ps args ((p,v)::l) h.2 (by simpa using e);refine⟨l2,?_,by rw[h2];simp⟩;rw[<- h1];show sG n ps args (cond (Nat.blt p n) ((fJ l).set p (some v)) (fJ l))=_;rw[h.1];rfl
theorem Q9{Y:Type}{f:Operand}{ps:List Tmp}{assign body:bV}{fn:Fn}{first captured:List Value}{k1:List OA}{F1:List aD}{GG:Y->Value}{out:Y->Out}{k1':Y->List OA}{fs:Y->List aD}{pr:Y->Prop}
 (hf:ev l f=.func fn ⟨first⟩ ⟨captured⟩)
 (it:∀lo r,aX P fn (first++[.func (.yield lo) #[] #[]]) captured (pt lo (.loop ⟨.ready,none,fJ l,n,ps,assign,body,r⟩)::k1) F1 GG (λy=>pt lo (.loop (ku ⟨.ready,none,fJ l,n,ps,assign,body,r⟩ (out y)))::k1' y) fs pr)
 (hk:aI k1 kl bE) (hF:Sub F1 F)
 (next:∀r y,pr y->R (λh=>K (out y) (act n l ({target:=.collected r,args:= #[]}::D) pm none) h) B w0 (k1' y++(pt r (.gM true)::bE)) (fs y++F)):
 R (λh=>EV P (.rangeFunc f ps assign body) (act n l D pm none) h K) B w0 kl F:=by
 intro w s;let L:Nat->lT:=λr=>⟨.ready,none,fJ l,n,ps,assign,body,r⟩
 let r:=w.h.next
 let w1:=w.new (.gM true)
 have s1:St B w0 (pt r (.gM true)::kl) F w1:=s.new _;let lo:=w1.h.next
 let w2:=w1.new (.loop (L r))
 have s2:St B w0 (pt lo (.loop (L r))::pt r (.gM true)::kl) F w2:=s1.new _;have s3:St B w0 ((pt lo (.loop (L r))::k1)++(pt r (.gM true)::bE)) F w2:=s2.jJ (k:=pt lo (.loop (L r))::k1) (kl':=pt r (.gM true)::bE) (.cons .here (by
  have:∀{k kl bE:List OA} (A:OA),aI k kl bE->aI k (A::kl) (A::bE):=by
   intro k kl bE A h;induction h with
   |nil=>exact .nil
   |cons h1 _ ih=>exact .cons (.there h1) ih
  exact this _ hk))
 obtain⟨S,h1,h2,h3⟩:=s3.own;obtain⟨S1,S2,q1,q2,hp⟩:=h1.jJ (k:=pt lo (.loop (L r))::k1) (kl':=pt r (.gM true)::bE) (by
  have:∀(k kr:List OA),aI k (k++kr) kr:=by
   intro k kr;induction k with
   |nil=>exact .nil
   |cons A k ih=>exact .cons .here ih
  exact this _ _)
 have hsub:∀i∈S1,i∈S:=λi hi=>hp.mem_iff.2 (nN _ hi);have st1:St S1 w2 (pt lo (.loop (L r))::k1) F1 w2:=⟨⟨aG _,λ_ _ _=>rfl,λ_ _=>rfl⟩,Wd.Le.refl w2,λi _ hz=>.inl hz,⟨S1,q1,(r9.1 (hp.nodup h2)).1,λi hi=>⟨.inr hi,(h3 i (hsub i hi)).2⟩⟩,λf hf=>s2.facts f (hF.mem f hf)⟩
 have hc:=it lo r S1 w2 st1;refine .rangeFunc fn first captured (by rw[kg];exact hf) (act n l ({target:=.collected r,args:= #[]}::D) pm none) w1.h r (.inl ⟨rfl,rfl,rfl,rfl⟩) (Left S1 w2 GG (λy=>pt lo (.loop (ku (L r) (out y)))::k1' y) fs pr) ?_ ?_ ?_
 ·rw[iI];exact hc
 ·rintro v pm' h' ⟨rfl,w',y,rfl,c,hv,hpr⟩;have sc:St B w0 ((pt lo (.loop (ku (L r) (out y)))::k1' y)++(pt r (.gM true)::bE)) (fs y++F) w':=s3.call (k1:=pt lo (.loop (L r))::k1) (F1:=F1) ⟨S,hp,h2,h3⟩ q2 c;have hg:=(show St B w0 (pt lo (.loop (ku (L r) (out y)))::(k1' y++(pt r (.gM true)::bE))) (fs y++F) w' from sc).get;refine⟨ku (L r) (out y),hg.1,?_,?_⟩
  ·cases out y<;>simp[ku]
  ·have e:(ku (L r) (out y)).pending.getD .normal=out y:=by cases out y<;>rfl
   rw[e];exact next r y hpr _ (St.write (o':=.loop {ku (L r) (out y)with state:=.exhausted}) sc).tail
 ·rintro ch pm' h' ⟨rfl,w',y,rfl,c,hv,hpr⟩;cases hv
end
end Go.Ideal
namespace Go.Ideal
variable {P:Program}
def gz{S α:Type}(step:S->α->S×Bool):S->List α->S
 |s,[]=>s
 |s,x::xs=>match step s x with
  |(s',true)=>gz step s' xs
  |(s',false)=>s'
def iL{S α:Type}(step:S->α->S×Out):S->List α->S×Out
 |s,[]=>(s,.normal)
 |s,x::xs=>match step s x with
  |(s',.normal)=>iL step s' xs
  |(s',o)=>(s',o)
theorem Sub.refl'{α:Type}:∀(l k:List α),Sub l (k++l)
 |[],_=>.nil
 |a::l,k=>.cons (oO _ (aR ..)) (by have:=Sub.refl' l (k++[a]);rwa [ig]at this)
theorem Sub.app{α:Type}:∀{k1 k2 l:List α},Sub k1 l->Sub k2 l->Sub (k1++k2) l
 |_,_,_,.nil,h=>h
 |_,_,_,.cons h h1,h2=>.cons h (h1.app h2)
section
variable {B:List Nat} {w0:Wd} {kl kl' bE:List OA} {F:List aD} {K:KO} {n:Nat} {l:List (Nat×Value)} {D:List Deferred} {pm:Option FrameMode} {ro:Option Nat}
theorem Ls{S α:Type}{step:S->α->S×Out}:∀(xs:List α) (s:S),gz (λ(so:S×Out) x=>(step so.1 x,kP (step so.1 x).2)) (s,Out.normal) xs=iL step s xs
 |[],s=>rfl
 |x::xs,s=>by
  have ih:=Ls (step:=step) xs;simp only[gz,iL];cases h:step s x with
  |mk s' o=>
   cases o with
   |normal=>simp only[kP];exact ih s'
   |_=>simp only[kP]
end
end Go.Ideal
namespace Go.Ideal
variable {P:Program} {ρ:Operand->Value}
theorem wrapN{m:Nat}(h:m<9223372036854775808):IntKind.i64.wrap (m:Int)=m:=wrap64 (by omega) (by omega)
theorem AC{x y:Operand}{t:TypeId}{a b:Nat}(hx:ρ x=.int .i64 (a:Int))(hy:ρ y=.int .i64 (b:Int))(hb:b<64):Pu P ρ (.bin .shr t x y) (.int .i64 ((a>>>b:Nat):Int)):=λh=>by
 simp only[au.run,hx,hy];rw[Ao (op:=.shr) (v:=.int .i64 ((a>>>b:Nat):Int)) rfl (by
  show dz P (Op.shift .shr .i64 a .i64 b)=_;unfold Op.shift;rw[if_neg (by omega)];show some (Value.int .i64 ((a:Int).fdiv (2^(min (b:Int).toNat 64))))=_;rw[show min (b:Int).toNat 64=b by simp;omega,Nat.shiftRight_eq_div_pow];congr 2;rw[show((2:Int)^b)=((2^b:Nat):Int)by simp,Int.fdiv_eq_ediv_of_nonneg _ (Int.natCast_nonneg _)];simp) rfl]
theorem Lt{x y:Operand}{t:TypeId}{a b:Nat}(hx:ρ x=.int .i64 (a:Int))(hy:ρ y=.int .i64 (b:Int))(hb:b<64)(hr:a<<<b<9223372036854775808):Pu P ρ (.bin .shl t x y) (.int .i64 ((a<<<b:Nat):Int)):=λh=>by
 simp only[au.run,hx,hy];rw[Ao (op:=.shl) (v:=.int .i64 ((a<<<b:Nat):Int)) rfl (by
  show dz P (Op.shift .shl .i64 a .i64 b)=_;unfold Op.shift;rw[if_neg (by omega)];show some (Value.int .i64 (IntKind.i64.wrap ((a:Int)*2^(min (b:Int).toNat 64))))=_;rw[show min (b:Int).toNat 64=b by simp;omega];rw[show((a:Int)*2^b)=((a<<<b:Nat):Int)by rw[Nat.shiftLeft_eq];simp,wrapN hr]) rfl]
theorem Ra{a:Nat}(h:a<9223372036854775808):(BitVec.ofInt 64 (a:Int)).toNat=a:=by
 simp[BitVec.toNat_ofInt];omega
theorem AJ{x y:Operand}{t:TypeId}{a b:Nat}(hx:ρ x=.int .i64 (a:Int))(hy:ρ y=.int .i64 (b:Int))(ha:a<9223372036854775808)(hb:b<9223372036854775808):Pu P ρ (.bin .and t x y) (.int .i64 ((a&&&b:Nat):Int)):=λh=>by
 simp only[au.run,hx,hy];rw[Ao (op:=.and) (v:=.int .i64 ((a&&&b:Nat):Int)) rfl (by
  show dz P (Op.intBits .and .i64 a b)=_;show some (Value.int .i64 (IntKind.i64.wrap ((BitVec.ofInt 64 (a:Int)&&&BitVec.ofInt 64 (b:Int)).toNat:Int)))=_;rw[BitVec.toNat_and,Ra ha,Ra hb,wrapN (zy Nat.and_le_left ha)]) rfl]
end Go.Ideal
namespace Go.Ideal
variable {P:Program}
def Lu{X:Type}(f:X->List OA):OA:=⟨λw S=>∃x,iE w (f x) S,λa h ⟨x,hx⟩=>⟨x,iE.loc a h hx⟩⟩
theorem qm{ρ:Operand->Value}{x y:Operand}{a b:Int}(hx:ρ x=.int .i64 a)(hy:ρ y=.int .i64 b):Pu P ρ (.wK true [x,y]) (.int .i64 (max a b)):=λh=>by
 have e:jM ρ [x,y]=[.int .i64 a,.int .i64 b]:=by rw[sH];simp[hx,hy]
 simp only[au.run,e,qU,cond];by_cases hb:b<=a
 ·rw[o9,eP hb,Int.max_eq_left hb]
 ·have:leZ b a=false:=by rw[o9,fB hb]
  rw[this,Int.max_eq_right (by omega)]
theorem uC{ρ:Operand->Value}{x y:Operand}{a b:Int}(hx:ρ x=.int .i64 a)(hy:ρ y=.int .i64 b):Pu P ρ (.wK false [x,y]) (.int .i64 (min a b)):=λh=>by
 have e:jM ρ [x,y]=[.int .i64 a,.int .i64 b]:=by rw[sH];simp[hx,hy]
 simp only[au.run,e,qU,cond];by_cases hb:a<=b
 ·rw[o9,eP hb,Int.min_eq_left hb]
 ·have:leZ a b=false:=by rw[o9,fB hb]
  rw[this,Int.min_eq_right (by omega)]
section
variable {B:List Nat} {w0:Wd} {kl kl' bE:List OA} {F:List aD} {K:KO} {n:Nat} {l:List (Nat×Value)} {D:List Deferred} {pm:Option FrameMode} {ro:Option Nat}
theorem Rb{X:Type}{f:X->List OA}{fq:X->List OA}{Q:IH->Prop}(hk:ai (Lu f) kl kl':=by exact gQ)(ha:∀x,cO (f x) kl' (fq x):=by intro x;repeat (first|exact cO.nil|apply cO.cons|exact cO.self|exact cO.app))(h:∀x,R Q B w0 (fq x) F):R Q B w0 kl F:=λw s=>by
 obtain⟨S,⟨S1,S2,⟨x,q1⟩,q2,e⟩,h2,h3⟩:=(s.fC hk).own;refine h x w ?_;rw[<- (ha x).eq];exact⟨s.agree,s.le,s.fw,⟨S,by rw[e];exact q1.app q2,h2,h3⟩,s.facts⟩
theorem Rc{X:Type}(f:X->List OA)(x:X){Q:IH->Prop}(hk:aI (f x) kl bE:=by exact pI)(h:R Q B w0 (Lu f::bE) F):R Q B w0 kl F:=λw s=>by
 obtain⟨S,h1,h2,h3⟩:=s.own;obtain⟨S1,S2,q1,q2,hp⟩:=h1.jJ hk;exact h w ⟨s.agree,s.le,s.fw,⟨S1++S2,⟨S1,S2,⟨x,q1⟩,q2,rfl⟩,hp.nodup h2,λi hi=>h3 i (hp.mem_iff.2 hi)⟩,s.facts⟩
theorem bJ{Q:IH->Prop}(g:aD)(hg:∀w:Wd,(∀f∈F,f.p w)->g.p w)(h:R Q B w0 kl (g::F)):R Q B w0 kl F:=λw s=>
 h w ⟨s.agree,s.le,s.fw,s.own,λf hf=>by
  rcases bD.1 hf with rfl|hf
  ·exact hg w s.facts
  ·exact s.facts f hf⟩
theorem Re{Y:Type}{f:FuncId}{args cap:List Value}{kl:List OA}{F:List aD}{val:Y->Value}{kl':Y->List OA}{fs:Y->List aD}{pr:Y->Prop}{c:bV}{m:Nat}{l0:List (Nat×Value)}(cf:eU)(hF:(qj P o8 qW).F f=some cf)
 (hb:∀B w0,R (λh=>EV P c (act m l0 [] none none) h (tC P cf (Left B w0 val kl' fs pr))) B w0 kl F)
 (h1:cf.body=c:=by conv=>lhs;(reduce;(try simp only[Int.reduceOfNat,Int.reduceNegSucc]))) (h2:qh cf.ntmps (gX (args++cap))=m:=by conv=>lhs;whnf) (h3:nY 0 (args++cap) []=l0:=by dsimp only[nY,Nat.reduceAdd,List.append_nil,List.cons_append,List.nil_append]):aX P (.func f) args cap kl F val kl' fs pr:=
 aby cf hF hb h1 h2 h3
theorem uD{Y:Type}{o:Out}{cf:eU}{vs:List Value}{val:Y->Value}{k1:Y->List OA}{fs:Y->List aD}{pr:Y->Prop}{fq:List OA}(y:Y)(hD:lm kl D fq:=by repeat (first|exact lm.nil|(apply lm.cons;(focus (repeat (first|with_reducible exact ai.here|with_reducible apply ai.there|with_reducible apply ai.app))))))
 (hr:RS l fq cf.results vs:=by exact Ay) (hv:rG vs=val y) (hp:pr y)
 (hk:aI (k1 y) fq bE:=by exact pI) (hF:Sub (fs y) F:=by exact nZ)
 (ho:o=.normal\/o=.ret:=by first|exact .inl rfl|exact .inr rfl):R (λh=>tC P cf (Left B w0 val k1 fs pr) o (act n l D none ro) h) B w0 kl F:=
 abz y hD hr hv hp hk hF ho
theorem GH{Y:Type}{lo:Nat}{L:lT}{out:Y->Out}{k1:Y->List OA}{fs:Y->List aD}{pr:Y->Prop}{o:Out}{fq:List OA}(y:Y)(ho:o=out y)(hn:yL o)(hp:pr y)
 (hk:aI (pt lo (.loop (uB L))::k1 y) kl fq:=by exact pI) (hF:Sub (fs y) F:=by exact nZ):
 R (λh=>yM B w0 lo L out k1 fs pr o (act n l [] none ro) h) B w0 kl F:=abA y ho hn hp hk hF
theorem lY{α:Type}(E:Enc α){ds:List Tmp}{rest:List aW}{d:Nat}{g:Option (Tmp×Bool)}{e:TypeId}{size bytes b':Nat}{s x:Operand}{v:Value}{xs:List α}(a:α)(y:E.Y){cs:List Value}{k1 k2:List OA}
 (hm:(xs.length+1)*bytes<=1073741824/\(xs.length+1)*size<=1073741824/\xs.length+1<=1073741824)
 (next:∀ad,R (λh=>aA P ds rest (act n ((d,.slice ad (xs.length+1) (xs.length+1))::l) D pm ro) h K) B w0 (ap E (.slice ad (xs.length+1) (xs.length+1)) (xs++[a])::k2) F)
 (hn:Nat.blt d n=true:=by rfl) (hg:bH l g=true:=by rfl)
 (hs:ev l s=v:=by conv=>lhs;whnf) (hx:ev l x=.slice (some ⟨b',0,some 0⟩) 1 1:=by rfl) (hk:ai (ap E v xs) kl k1:=by exact gQ) (hc:ai (pt b' (.cells cs)) k1 k2:=by exact gQ) (hp:cs=E.pat a y:=by rfl) (hF:Sub (E.fs a y) F:=by exact nZ) (hz:E.n=size:=by rfl):
 R (λh=>aA P ds (⟨⟨some d,g,.append e size bytes s x⟩,[]⟩::rest) (act n l D pm ro) h K) B w0 kl F:=
 (abd hn hg hs hx hk hc hp hF hz hm).h λv' w st=>by
   obtain⟨S,⟨S1,S2,q,_⟩,_⟩:=st.own;obtain⟨ad,e⟩:=QU q;rw[dN,su]at e;subst e;exact next ad w st
section
variable {ds:List Tmp} {rest:List aW} {d:Nat} {g:Option (Tmp×Bool)}
theorem AL{e:TypeId}{size bytes:Nat}{zero:List Value}{x y:Operand}(m:Nat)(hm:m*bytes<=1073741824/\m*size<=1073741824/\m<=1073741824)
 (next:∀b,R (λh=>aA P ds rest (act n ((d,.slice (some ⟨b,0,some 0⟩) m m)::l) D pm ro) h K) B w0 (pt b (.cells (zeros zero m))::kl) F)
 (hx:ev l x=.int .i64 (m:Int):=by rfl) (hy:ev l y=.int .i64 (m:Int):=by rfl) (hn:Nat.blt d n=true:=by rfl) (hg:bH l g=true:=by rfl):
 R (λh=>aA P ds (⟨⟨some d,g,.wJ e size bytes zero x y⟩,[]⟩::rest) (act n l D pm ro) h K) B w0 kl F:=(aa1 hn hg hx hy hm).h next
theorem jk{x y:Operand}{b o:Nat}{cs cs':List Value}{v:Value}(hs:cs.set o v=cs')(ho:o<cs.length)
 (next:R (λh=>aA P ds rest (act n l D pm ro) h K) B w0 (pt b (.cells cs')::kl') F)
 (hx:ev l x=.pointer (some ⟨b,o,none⟩):=by rfl) (hy:ev l y=v:=by rfl) (hv:cellsOf v=some [v]:=by rfl) (hk:ai (pt b (.cells cs)) kl kl':=by exact gQ) (hg:bH l g=true:=by rfl):
 R (λh=>aA P ds (⟨⟨none,g,.store 1 x y⟩,[]⟩::rest) (act n l D pm ro) h K) B w0 kl F:=by subst hs;exact(aa6 hg hx hy hv hk ho).h next
theorem gp{x:Operand}{b o:Nat}{cs:List Value}(v:Value)(hv:cs[o]? =some v)
 (next:R (λh=>aA P ds rest (act n ((d,v)::l) D pm ro) h K) B w0 kl F)
 (hx:ev l x=.pointer (some ⟨b,o,none⟩):=by rfl) (hk:ai (pt b (.cells cs)) kl kl':=by exact gQ) (hn:Nat.blt d n=true:=by rfl) (hg:bH l g=true:=by rfl):
 R (λh=>aA P ds (⟨⟨some d,g,.aM x⟩,[]⟩::rest) (act n l D pm ro) h K) B w0 kl F:=(aa7 hn hg hx hk hv).h next
end
end
