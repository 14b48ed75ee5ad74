/-
  Part IdealGW.
-/
import Derived.Test.YtfakljdleblkoaaGreatIdealFW
set_option linter.all false
namespace Go.Ideal
theorem kF{a b:Nat}(h:Nat.beq a b=true):a=b:=p9 h
def uw{α:Type}(l:List α)(b:Bool):List α:=
 match l with
 |[]=>[]
 |y::l=>match b with
  |true=>y::uw l false
  |false=>uw l true
theorem QF{α:Type}(l:List α):∀b,(List.rec (motive:=λ_=>Bool->List α) (λ_=>[]) (λy _ r b=>Bool.rec (motive:=λ_=>List α) (r true) (y::r false) b) l:Bool->List α) b=uw l b:=by
 induction l with
 |nil=>intro b;rfl
 |cons y l ih=>intro b;cases b
               ·simp only[uw];exact ih true
               ·simp only[uw];exact congrArg (y::·) (ih false)
theorem Gr{α:Type}:∀(l:List α) (k:Nat),(uw l true)[k]? =l[2*k]?/\(uw l false)[k]? =l[2*k+1]?
 |[],k=>by simp[uw]
 |y::l,k=>by
  simp only[uw];refine⟨?_,?_⟩
  ·cases k with
   |zero=>rfl
   |succ k=>rw[qI,(Gr l k).2,show 2*(k+1)=(2*k+1)+1 by omega,qI]
  ·rw[(Gr l k).1,qI]
theorem Lj{α:Type}:∀(f:Nat) (l:List α) (i:Nat) (x:α),(Bg f l).get i=some x->l[i]? =some x
 |0,l,i,x,h=>by cases h
 |f+1,[],i,x,h=>by cases h
 |f+1,y::l,i,x,h=>by
  have e:Bg (f+1) (y::l)=.node (some y) (Bg f (uw l true)) (Bg f (uw l false)):=by
   rw[<- QF l true,<- QF l false];rfl
  rw[e]at h;cases i with
  |zero=>exact h
  |succ m=>
   rw[T.vo]at h;rw[qI];split at h
   ·rename_i hm;have:=Lj f _ _ _ h;rw[(Gr l _).1]at this
    rwa [show 2*(m/2)=m by omega]at this
   ·rename_i hm;have:=Lj f _ _ _ h;rw[(Gr l _).2]at this
    rwa [show 2*(m/2)+1=m by omega]at this
theorem BC{p:Value->Value->Bool}(hp:∀x y,p x y=true->x=y):∀(a b:List Value),
 (List.rec (motive:=λ_=>List Value->Bool) (λb=>match b with|[]=>true|_=>false) (λx _ r b=>match b with|y::b=>cond (p x y) (r b) false|[]=>false) a:List Value->Bool) b=true->a=b
 |[],[],_=>rfl
 |[],_::_,h=>by cases h
 |x::a,[],h=>by cases h
 |x::a,y::b,h=>by
  dsimp only at h;cases hc:p x y with
  |false=>rw[hc]at h;cases h
  |true=>rw[hc]at h;rw[hp x y hc,BC hp a b h]
theorem zP:∀(f:Nat) (v u:Value),pq f v u=true->v=u
 |0,v,u,h=>by cases h
 |f+1,v,u,h=>by
  have ih:=zP f;change (match (generalizing:=false) v,u with
   | .bool a,.bool b=>a==b
   | .int .i64 a,.int .i64 b=>Bc a b
   | .int j a,.int k b=>j==k&&a==b
   | .string a,.string b=>a.data.toList==b.data.toList
   | .pointer none,.pointer none=>true
   | .pointer (some ⟨i,o,none⟩),.pointer (some ⟨j,p,none⟩)=>Nat.beq i j&&Nat.beq o p
   | .slice none n c,.slice none m d=>Nat.beq n m&&Nat.beq c d
   | .slice (some ⟨i,o,some f⟩) n c,.slice (some ⟨j,p,some g⟩) m d=>Nat.beq i j&&Nat.beq o p&&Nat.beq f g&&Nat.beq n m&&Nat.beq c d
   | .map none,.map none=>true
   | .map (some i),.map (some j)=>Nat.beq i j
   | .nilIface,.nilIface=>true
   | .nilFunc,.nilFunc=>true
   | .iface t v,.iface s u=>Nat.beq t s&&pq f v u
   | .agg ⟨a⟩,.agg ⟨b⟩=>(List.rec (motive:=λ_=>List Value->Bool) (λb=>match b with|[]=>true|_=>false) (λx _ r b=>match b with|y::b=>cond (pq f x y) (r b) false|[]=>false) a:List Value->Bool) b
   | .tuple ⟨a⟩,.tuple ⟨b⟩=>(List.rec (motive:=λ_=>List Value->Bool) (λb=>match b with|[]=>true|_=>false) (λx _ r b=>match b with|y::b=>cond (pq f x y) (r b) false|[]=>false) a:List Value->Bool) b
   | .func f' ⟨a⟩ ⟨c⟩,.func g ⟨b⟩ ⟨d⟩=>f'==g&&
      (List.rec (motive:=λ_=>List Value->Bool) (λb=>match b with|[]=>true|_=>false) (λx _ r b=>match b with|y::b=>cond (pq f x y) (r b) false|[]=>false) a:List Value->Bool) b&&
      (List.rec (motive:=λ_=>List Value->Bool) (λb=>match b with|[]=>true|_=>false) (λx _ r b=>match b with|y::b=>cond (pq f x y) (r b) false|[]=>false) c:List Value->Bool) d
   |_,_=>false)=true at h
  split at h
  ·rw[eq_of_beq h]
  ·rw[Dp]at h;rw[eq_of_beq h]
  ·simp only[eB]at h;rw[eq_of_beq h.1,eq_of_beq h.2]
  ·rename_i a b;have:=eq_of_beq h;cases a with|mk a=>cases b with|mk b=>simp only at this;congr 2;exact Array.toList_inj.mp this
  ·rfl
  ·simp only[eB]at h;rw[kF h.1,kF h.2]
  ·simp only[eB]at h;rw[kF h.1,kF h.2]
  ·simp only[eB]at h;rw[kF h.1.1.1.1,kF h.1.1.1.2,kF h.1.1.2,kF h.1.2,kF h.2]
  ·rfl
  ·rw[kF h]
  ·rfl
  ·rfl
  ·simp only[eB]at h;rw[kF h.1,ih _ _ h.2]
  ·rw[BC ih _ _ h]
  ·rw[BC ih _ _ h]
  ·simp only[eB]at h;rw[eq_of_beq h.1.1,BC ih _ _ h.1.2,BC ih _ _ h.2]
  ·cases h
theorem Ll{P:Program}{a:aV}{h:IH}:∀{re:List ik},Df P re a h=true->
 ∀r∈re,a.wants r.guard≠some false->∃u h2,r.op.run P a.eval h=some (u,h2)/\∀d,r.dst=some d->dF a.tmps d=u
 |[],_,r,hr,_=>by cases hr
 |r0::re,hs,r,hr,hw=>by
  have e:Df P (r0::re) a h=cond (match a.wants r0.guard with
   |some false=>true
   |_=>match r0.op.run P a.eval h with
    |some (u,_)=>match r0.dst with
     |some d=>pq 50 (dF a.tmps d) u
     |none=>true
    |none=>false) (Df P re a h) false:=rfl
  rw[e]at hs;cases hc:(match a.wants r0.guard with
   |some false=>true
   |_=>match r0.op.run P a.eval h with
    |some (u,_)=>match r0.dst with
     |some d=>pq 50 (dF a.tmps d) u
     |none=>true
    |none=>false)with
  |false=>rw[hc]at hs;cases hs
  |true=>
   rw[hc]at hs;cases hr with
   |tail _ hr=>exact Ll hs r hr hw
   |head=>
    split at hc
    ·rename_i hg;exact absurd hg hw
    ·split at hc
     ·rename_i u h2 hrun;refine⟨u,h2,hrun,λd hd=>?_⟩;rw[hd]at hc;exact zP _ _ _ hc
     ·cases hc
theorem Lm{P:Program}{c:dB}{a:aV}{h:IH}{K:KO}(e:EV P c a h K):∀K':KO,(∀o a h,K o a h->K' o a h)->EV P c a h K':=by
 refine EV.rec (P:=P) (motive_1:=λc a h K _=>∀K':KO,(∀o a h,K o a h->K' o a h)->EV P c a h K')
  (motive_2:=λds l a h K _=>∀K':KO,(∀o a h,K o a h->K' o a h)->aG P ds l a h K')
  (motive_3:=λ_ _ _ _ _ _ _=>True) (motive_4:=λ_ _ _ _=>True)
  ?_ ?_ ?_ ?_ ?_ ?_ ?_ ?_ ?_ ?_ ?_ ?_ ?_ ?_ ?_ ?_ ?_ ?_ ?_ ?_ ?_ ?_ ?_ ?_ ?_ ?_ ?_ ?_ ?_ ?_ ?_ ?_ e
 ·intro a h K hk K' hK;exact .skip (hK _ _ _ hk)
 ·intro ds l a h K ho i K' hK;exact .ops (i K' hK)
 ·intro x y a h K M h1 h2 h3 i1 i2 K' hK;exact .seq M h1 (λa' h' hm=>i2 a' h' hm K' hK) (λo a' h' hm hn=>hK _ _ _ (h3 o a' h' hm hn))
 ·intro c x y a h K hc h1 i1 K' hK;exact .K5 hc (i1 K' hK)
 ·intro c x y a h K hc h1 i1 K' hK;exact .K6 hc (i1 K' hK)
 ·intro id c a h K M h1 h2 i1 K' hK;exact .block M h1 (λo a' h' hm=>hK _ _ _ (h2 o a' h' hm))
 ·intro c a h K M h1 h2 h3 i1 i2 K' hK;exact .loop M h1 (λa' h' hm=>i2 a' h' hm K' hK) (λo a' h' hm hn=>hK _ _ _ (h3 o a' h' hm hn))
 ·intro c a h K h1 i1 K' hK;exact .scope (i1 K' hK)
 ·intro id a h K hk K' hK;exact .exit (hK _ _ _ hk)
 ·intro a h K hk K' hK;exact .ret (hK _ _ _ hk)
 ·intro f ps assign body a h K fn first captured hf a1 h1 r hr M hc hok jH i1 K' hK
  exact .rangeFunc fn first captured hf a1 h1 r hr M hc (λv pm h2 hm=>by
   obtain⟨lp,q1,q2,q3⟩:=hok v pm h2 hm;exact⟨lp,q1,q2,hK _ _ _ q3⟩) (λch pm h2 hm=>hK _ _ _ (jH ch pm h2 hm))
 ·intro c a h K a0 hw hn h1 i1 K' hK;exact .weaken a0 hw hn (i1 K' hK)
 ·intro ds a h K hk K' hK;exact .nil (hK _ _ _ hk)
 ·intro ds s l a h K hw h1 i1 K' hK;exact .skip hw (i1 K' hK)
 ·intro ds s l a h K hw v h' hr hs h1 i1 K' hK;exact .kW hw v h' hr hs (i1 K' hK)
 ·intro ds s l a h K hw q hq M hc hs hok jH i1 i2 K' hK;exact .call hw q hq M hc hs (λv pm h' hm=>i2 v pm h' hm K' hK) (λch pm h' hm=>hK _ _ _ (jH ch pm h' hm))
 ·intro ds s l a h K hw ho hre hm hro h1 i1 K' hK;exact .Qh hw ho hre hm hro (i1 K' hK)
 ·intro ds s l a h K hw ho hre m hm hro h1 i1 K' hK;exact .recoverD hw ho hre m hm hro (i1 K' hK)
 ·intro ds s l a h K hw x ho t v hx hk K' hK;exact .panic hw x ho t v hx (hK _ _ _ hk)
 ·intro ds s l a h K hw f args ho hre hro fn first captured hf h1 i1 K' hK;exact .defer hw f args ho hre hro fn first captured hf (i1 K' hK)
 ·intro ds s l a h K hw x ho hre alts ha h1 i1 K' hK;exact .next hw x ho hre alts ha (λvh hv=>i1 vh hv K' hK)
 all_goals intros;trivial
structure QG(V:Env)(E:Ev):Prop where
 code:∀c a h K,E.code c a h K=true->EV V.P c a h (λo a h=>K o a h=true)
 call:∀q h K,E.call q h K=true->CALL V.P q h (λr pm h=>K r pm h=true)
structure zQ(V:Env):Prop where
 memo:∀f q h v h',(V.memo f).bind (λg=>g q h)=some (v,h')->q.pm=none->(∃args,target V.P q=some (f,args))->CALL V.P q h (λr pm h2=>r=.ok v/\pm=none/\h2=h')
 fn:∀f cf,V.F f=some cf->∃fn,V.P.funcs[f]? =some fn/\tX V.P fn=some cf
theorem yu{a b:Bool}(h:cond a b false=true):a=true/\b=true:=by
 cases a with
 |false=>cases h
 |true=>exact⟨rfl,h⟩
section
variable {V:Env} {E:Ev} (hE:QG V E)
include hE
variable{h:IH}{s:bT}{ds:List Tmp}{l:List bT}{a:aV}{next:aV->IH->Bool}{k:BO}
theorem QH(hw:a.wants s.s.guard=some true)
 (hn:∀a h,next a h=true->aG V.P ds l a h (λo a h=>k o a h=true)) (hb:F3 V.P E ds s a h next k=true):aG V.P ds (s::l) a h (λo a h=>k o a h=true):=by
 unfold F3 at hb;cases hq:wH s.s.op a.eval with
 |none=>rw[hq]at hb;cases hb
 |some q=>
  rw[hq]at hb;have hc:=hE.call _ _ _ hb;refine .call hw q hq _ hc ?_ ?_ ?_
  ·intro v pm h' hm;exact Ll (yu hm).1
  ·intro v pm h' hm;exact hn _ _ (yu hm).2
  ·intro ch pm h' hm;exact hm
omit hE in
theorem Lp{b:Bool}(h:Dg s b=true):s.re=[]/\b=true:=by
 unfold Dg at h;split at h
 ·rename_i e;exact⟨e,h⟩
 ·cases h
omit hE in
theorem aaa(hw:a.wants s.s.guard=some true)
 (hn:∀a h,next a h=true->aG V.P ds l a h (λo a h=>k o a h=true)) (hb:J8 V.P s a h next=true):aG V.P ds (s::l) a h (λo a h=>k o a h=true):=by
 unfold J8 at hb;split at hb
 ·rename_i v h' hr;split at hb
  ·rename_i e;exact .kW hw v h' hr (by rw[e];intro r hr;cases hr) (hn _ _ hb)
  ·exact .kW hw v h' hr (Ll (yu hb).1) (hn _ _ (yu hb).2)
 ·cases hb
theorem aab(hw:a.wants s.s.guard=some true)
 (hn:∀a h,next a h=true->aG V.P ds l a h (λo a h=>k o a h=true)) (hb:F4 V.P E ds s a h next k=true):aG V.P ds (s::l) a h (λo a h=>k o a h=true):=by
 unfold F4 at hb;split at hb
 ·exact QH hE hw hn hb
 ·exact QH hE hw hn hb
 ·rename_i ho;obtain⟨hre,hb⟩:=Lp hb;split at hb
  ·cases hb
  ·rename_i hro;split at hb
   ·rename_i hm;exact .Qh hw ho hre hm hro (hn _ _ hb)
   ·rename_i m hm;exact .recoverD hw ho hre m hm hro (hn _ _ hb)
 ·rename_i x ho;split at hb
  ·rename_i t v hx;exact .panic hw x ho t v hx hb
  ·cases hb
 ·rename_i f args ho;obtain⟨hre,hb⟩:=Lp hb;split at hb
  ·cases hb
  ·rename_i hro;split at hb
   ·rename_i fn first captured hf
    exact .defer hw f args ho hre hro fn first captured hf (hn _ _ hb)
   ·cases hb
 ·rename_i x ho;obtain⟨hre,hb⟩:=Lp hb;split at hb
  ·rename_i alts ha;refine .next hw x ho hre alts ha λvh hv=>?_
   rw[Pj,kR]at hb;exact hn _ _ (hb vh hv)
  ·cases hb
 ·exact aaa hw hn hb
theorem Lr{ds:List Tmp}{k:BO}:∀{l:List bT} {a:aV} {h:IH},Dh V.P E ds l a h k=true->aG V.P ds l a h (λo a h=>k o a h=true)
 |[],a,h,hb=>.nil hb
 |s::l,a,h,hb=>by
  have e:Dh V.P E ds (s::l) a h k=(match a.wants s.s.guard with
   |some true=>F4 V.P E ds s a h (λa h=>Dh V.P E ds l a h k) k
   |some false=>Dh V.P E ds l (a.put s.s.dst si) h k
   |none=>false):=rfl
  rw[e]at hb;split at hb
  ·rename_i hw;exact aab hE hw (λa h h1=>Lr h1) hb
  ·rename_i hw;exact .skip hw (Lr hb)
  ·cases hb
theorem Gs{cf:gU}{ts:T Value}:∀{ds:List Deferred} {m:FrameMode} {h:IH} {k:iP->IH->Bool},zA E cf ts ds m h k=true->LEAVE V.P cf ts ds m h (λr h=>k r h=true)
 |[],m,h,k,hb=>by
  have e:zA E cf ts [] m h k=(match (generalizing:=false) m with
   | .returning=>match qh cf.results ts h with
     |some v=>k (.ok v) h
     |none=>false
   | .panicking ch=>k (.fJ ch) h
   | .run=>false):=rfl
  rw[e]at hb;split at hb
  ·split at hb
   ·rename_i v hv;exact .ret v hv hb
   ·cases hb
  ·rename_i ch;exact .fJ ch hb
  ·cases hb
 |d::ds,m,h,k,hb=>by
  have e:zA E cf ts (d::ds) m h k=(match (generalizing:=false) m with
   | .run=>false
   |m=>match (generalizing:=false) d with
    |{target:=.collected r,.. }=>match h.get r with
     |some (.iY true)=>zA E cf ts ds m (h.set r (.iY false)) k
     |_=>false
    |{target:=.fn fn ⟨captured⟩,args:=⟨args⟩}=>E.call ⟨fn,args,captured,some m⟩ h λr pm h=>match pm with
     |none=>false
     |some m'=>match r with
      | .ok _=>zA E cf ts ds (xY m') h k
      | .fJ ch=>zA E cf ts ds (Be m' ch) h k
    |_=>false):=rfl
  rw[e]at hb;split at hb
  ·cases hb
  ·rename_i hm;have hm':m≠.run:=by intro e;exact hm e
   split at hb
   ·rename_i r args;split at hb
    ·rename_i hr;exact .coll hm' r hr (Gs hb)
    ·cases hb
   ·rename_i fn captured args;have hc:=hE.call _ _ _ hb;refine .call hm' _ hc ?_ ?_ ?_
    ·intro r pm h' hM e;rw[e]at hM;cases hM
    ·intro v m' h' hM;exact Gs hM
    ·intro ch m' h' hM;exact Gs hM
   ·cases hb
variable (hV:zQ V)
include hV
variable{q:gD}{args:List Value}
theorem QI{f:FuncId}{k:BR}(ht:target V.P q=some (f,args))(hb:zB V E f args q.pm h k=true):CALL V.P q h (λr pm h=>k r pm h=true):=by
 unfold zB at hb;split at hb
 ·cases hb
 ·rename_i cf hcf;obtain⟨fn,hf,hfn⟩:=hV.fn f cf hcf;have hc:=hE.code _ _ _ _ hb;refine .enter f args ht fn hf cf hfn _ hc ?_ ?_
  ·intro o a' h' hM e;rw[e]at hM;cases hM
  ·intro o a' h' m hM e;rw[e]at hM;exact Gs hE hM
omit hV in
theorem aac{l:Nat}{k:BR}(hq:q.fn=.yield l)(hpm:q.pm=none)(hb:J9 E l q.args h k=true):CALL V.P q h (λr pm h=>k r pm h=true):=by
 unfold J9 at hb;split at hb
 ·rename_i r hr;obtain⟨ha,hb⟩:=yu hb;have ha:=kF ha;rw[wJ,wJ]at ha;have hc:=hE.code _ _ _ _ hb;refine .round l hq hpm r hr ha _ hc ?_ ?_
  ·intro o a' h' hM;split at hM
   ·split at hM
    ·rename_i r1 hr1;split at hM
     ·rename_i hs;exact⟨rfl,r1,hr1,hs⟩
     ·cases hM
    ·cases hM
   ·cases hM
  ·intro a' h' r1 hM hr1;simp only[hr1]at hM;split at hM
   ·have hc2:=hE.code _ _ _ _ hM;refine Lm hc2 _ ?_;intro o a2 h2 hK;unfold Pg at hK;split at hK
    ·rename_i hd;split at hK
     ·rename_i r2 hr2;refine⟨r2,hr2,hd,?_⟩;cases o<;>exact hK
     ·cases hK
    ·cases hK
   ·cases hM
 ·cases hb
omit hE in
theorem aad{k:BR}{f:Nat}{other:Bool}(ht:target V.P q=some (f,args))(ho:other=true->CALL V.P q h (λr pm h=>k r pm h=true))
 (hb:Ka V f q h k other=true):CALL V.P q h (λr pm h=>k r pm h=true):=by
 unfold Ka at hb;split at hb
 ·exact ho hb
 ·rename_i g hg;split at hb
  ·exact ho hb
  ·rename_i hpm;split at hb
   ·rename_i v h' hv;refine .qY _ (hV.memo f q h v h' (by rw[hg];exact hv) hpm ⟨args,ht⟩) ?_;rintro r pm h2 ⟨rfl,rfl,rfl⟩;exact hb
   ·exact ho hb
theorem aae(q:gD)(h:IH)(k:BR)(hb:Kb V E q h k=true):CALL V.P q h (λr pm h=>k r pm h=true):=by
 unfold Kb at hb;split at hb
 ·rename_i l hq;split at hb
  ·rename_i hpm;exact aac hE hq hpm hb
  ·cases hb
 ·split at hb
  ·cases hb
  ·rename_i f' args ht;refine aad hV ht (λhb=>?_) hb;split at hb
   ·exact QI hE hV ht hb
   ·rename_i g hg;split at hb
    ·cases hb
    ·rename_i hpm;have hent:∀h k,zB V E f' args none h k=true->CALL V.P q h (λr pm h=>k r pm h=true):=by
      intro h k hh;exact QI hE hV ht (by rw[hpm];exact hh)
     split at hb
     ·rw[hpm]at hb;exact hent _ _ hb
     ·rw[hpm]at hb;exact hent _ _ hb
     ·rename_i cs n f hne hgq;obtain⟨h1,hb⟩:=yu hb;obtain⟨h2,hb⟩:=yu hb;simp only[eB,qM]at h1;have hne':cs≠[]:=by
       intro e;subst e;exact hne rfl
      refine .cut cs n f h1.1 hne' ?_ _ (hent _ _ h2) hpm ?_ hb
      ·rcases h1.2 with e|e
       ·exact .inl (kF e)
       ·right;have:=kF e;rw[wJ]at this;exact this
      ·intro r pm h' hM;unfold Ph at hM;split at hM
       ·cases hM
       ·split at hM
        ·rename_i i o f'' n' c;obtain⟨h3,h4⟩:=yu hM;simp only[eB,qM,FD]at h3;obtain⟨⟨⟨⟨e1,e2⟩,e3⟩,e4⟩,e5⟩:=h3;have e1:=kF e1;have e2:=kF e2;subst e1;subst e2;refine⟨rfl,kF e5,i,o,c,rfl,mD e4,?_,?_⟩
         ·intro e;rcases e3 with e3|e3
          ·subst e;cases e3
          ·exact kF e3
         ·split at h4
          ·rename_i l hl;rw[BC (zP 5) _ _ h4]at hl;rw[wJ]at hl;rw[hl]
          ·cases h4
        ·cases hM
omit hV in
theorem aaf(c:dB)(a:aV)(h:IH)(k:BO)(hb:F5 V E c a h k=true):EV V.P c a h (λo a h=>k o a h=true):=by
 cases c with
 |skip=>exact .skip hb
 |ops ds l=>exact .ops (Lr hE hb)
 |seq x y=>
  refine .seq _ (hE.code _ _ _ _ hb) ?_ ?_
  ·intro a' h' hm;exact hE.code _ _ _ _ hm
  ·exact oR
 |cond c x y=>
  simp only[F5]at hb;split at hb
  ·rename_i hc;exact .K5 hc (hE.code _ _ _ _ hb)
  ·rename_i hc;exact .K6 hc (hE.code _ _ _ _ hb)
  ·cases hb
 |block id c=>exact .block _ (hE.code _ _ _ _ hb) (λo a' h' hm=>hm)
 |loop c=>
  refine .loop _ (hE.code _ _ _ _ hb) ?_ ?_
  ·intro a' h' hm;exact hE.code _ _ _ _ hm
  ·exact oR
 |scope c=>exact .scope (hE.code _ _ _ _ hb)
 |exit id=>exact .exit hb
 |ret=>exact .ret hb
 |fail=>cases hb
 |rangeFunc f ps assign body=>
  simp only[F5]at hb;split at hb
  ·rename_i fn first captured hf
   split at hb
   ·rename_i hro;refine .rangeFunc fn first captured hf _ _ h.next (.inl ⟨hro,rfl,rfl,rfl⟩) _ (hE.call _ _ _ hb) ?_ ?_
    ·exact nc
    ·intro ch pm h2 hm;exact hm
   ·rename_i l0 hro;split at hb
    ·rename_i r0 hr0;refine .rangeFunc fn first captured hf _ _ r0.defers (.inr ⟨l0,r0,hro,rfl,rfl,hr0,rfl⟩) _ (hE.call _ _ _ hb) ?_ ?_
     ·exact nc
     ·intro ch pm h2 hm;exact hm
    ·cases hb
  ·cases hb
end
theorem Ls{V:Env}(hV:zQ V):∀n,QG V (Bh V n)
 |0=>⟨(λ_ _ _ _ h=>by cases h),(λ_ _ _ h=>by cases h)⟩
 |n+1=>⟨λc a h k hb=>aaf (Ls hV n) c a h k hb,λq h k hb=>aae (Ls hV n) hV q h k hb⟩
theorem BD(P:Program)(cut memo)(hm:∀f q h v h',(memo f).bind (λg=>g q h)=some (v,h')->q.pm=none->(∃args,target P q=some (f,args))->CALL P q h (λr pm h2=>r=.ok v/\pm=none/\h2=h')):zQ (pu P cut memo) where
 memo:=hm
 fn f cf h:=by
  have e:(pu P cut memo).F f=(match (Bg 100000 P.funcs.toList).get f with
   |some fn=>tX P fn
   |none=>none):=rfl
  rw[e]at h;split at h
  ·rename_i fn hf;refine⟨fn,?_,h⟩;have:=Lj _ _ _ _ hf;rw[zg]at this;exact this
  ·cases h
end Go.Ideal
namespace Go.Ideal
variable {P:Program}
def lk(l:List (Nat×Value))(k:Nat):Value:=
 match l with
 |[]=>dO
 |(j,v)::l=>cond (Nat.beq k j) v (lk l k)
noncomputable def iQ:List (Nat×Value)->T Value
 |[]=>.leaf
 |(j,v)::l=>(iQ l).set j (some v)
theorem uy:∀(l:List (Nat×Value)) (k:Nat),dF (iQ l) k=lk l k
 |[],k=>rfl
 |(j,v)::l,k=>by
  have ih:=uy l k;unfold dF at ih⊢;simp only[iQ,lk,T.mZ];by_cases e:k=j
  ·subst e;simp
  ·have:Nat.beq k j=false:=by
    cases hb:Nat.beq k j with
    |false=>rfl
    |true=>exact absurd (p9 hb) e
   rw[if_neg e,this];exact ih
noncomputable def act(n:Nat)(l:List (Nat×Value))(D:List Deferred)(pm:Option FrameMode)(ro:Option Nat):aV:=⟨n,iQ l,D,pm,ro⟩
def ev(l:List (Nat×Value))(x:Operand):Value:=
 match x with
 | .tmp t=>lk l t
 | .const v=>v
 | .global g=>.pointer (some ⟨g,0,none⟩)
 | .func f=>.func (.func f) #[] #[]
section
variable {n:Nat} {l:List (Nat×Value)} {D:List Deferred} {pm:Option FrameMode} {ro:Option Nat}
theorem ng:(act n l D pm ro).eval=ev l:=by
 funext x
 cases x with
 |tmp t=>exact uy l t
 |_=>rfl
theorem pJ{d:Nat}{v:Value}(h:Nat.blt d n=true):(act n l D pm ro).put (some d) v=act n ((d,v)::l) D pm ro:=by
 simp only[act,aV.put,aV.set,h,cond];rfl
theorem Gt(t:Nat)(want:Bool):(act n l D pm ro).wants (some (t,want))=match lk l t with
 | .bool b=>some (cond want b (!b))
 | .chan _=>some false
 |_=>none:=by
 unfold aV.wants;simp only[act,uy];cases lk l t<;>rfl
def weaker(a0 a:aV):Prop:=(∀i,dF a0.tmps i=dO\/dF a0.tmps i=dF a.tmps i)/\a0.n=a.n/\a0.defers=a.defers/\a0.pm=a.pm/\a0.ro=a.ro
def sub:List (Nat×Value)->List (Nat×Value)->Prop
 |[],_=>True
 |(k,v)::l0,l=>lk l k=v/\sub l0 l
theorem QJ:∀{l0 l:List (Nat×Value)},sub l0 l->∀i,lk l0 i=dO\/lk l0 i=lk l i
 |[],l,_,i=>.inl rfl
 |(k,v)::l0,l,h,i=>by
  simp only[lk];cases hb:Nat.beq i k with
  |true=>right;rw[p9 hb];exact h.1.symm
  |false=>exact QJ h.2 i
theorem Lt{l0:List (Nat×Value)}(h:sub l0 l):weaker (act n l0 D pm ro) (act n l D pm ro):=
 ⟨λi=>by simp only[act,uy];exact QJ h i,rfl,rfl,rfl,rfl⟩
def yx(P:Program)(y:dB)(K:KO):KO:=λo a h=>match o with
 | .normal=>EV P y a h K
 |o=>K o a h
variable{K:KO}{h:IH}{a:aV}{x y:dB}
theorem aag(h1:EV P x a h (yx P y K)):EV P (.seq x y) a h K:=
 .seq _ h1 (λ_ _ hm=>hm) (λo a' h' hm hn=>by
  exact pP)
def wT(id:Nat)(K:KO):KO:=λo a h=>K (inBlock id o) a h
variable{c:dB}
theorem aah{id:Nat}(h1:EV P c a h (wT id K)):EV P (.block id c) a h K:=.block _ h1 (λ_ _ _ hm=>hm)
theorem DX{c:Operand}(b:Bool)(hc:ev l c=.bool b)(h1:b=true->EV P x (act n l D pm ro) h K)(h2:b=false->EV P y (act n l D pm ro) h K):EV P (.cond c x y) (act n l D pm ro) h K:=by
 cases b with
 |true=>exact .K5 (by rw[ng];exact hc) (h1 rfl)
 |false=>exact .K6 (by rw[ng];exact hc) (h2 rfl)
def wU(I:Nat->aV->IH->Prop)(m:Nat)(K:KO):KO:=λo a h=>match o with
 | .normal=>∃m' a0,m'<m/\weaker a0 a/\I m' a0 h
 |o=>K o a h
theorem aai(I:Nat->aV->IH->Prop)(hb:∀m a h,I m a h->EV P c a h (wU I m K)):∀m a h,I m a h->EV P (.loop c) a h K:=by
 intro m;induction m using Nat.strongRecOn with
 |ind m ih=>
  intro a h hI;refine .loop _ (hb m a h hI) ?_ ?_
  ·rintro a' h' ⟨m',a0,hlt,hw,hI'⟩;exact .weaken a0 hw.1 hw.2 (ih m' hlt a0 h' hI')
  ·intro o a' h' hm hn;exact pP
theorem QK{a0:aV}(hw:weaker a0 a)(h1:EV P c a0 h K):EV P c a h K:=.weaken a0 hw.1 hw.2 h1
section
variable {ds:List Tmp} {rest:List bT} {h:IH} {K:KO}
variable{d:Nat}{op:aB}
theorem step{v:Value}{h':IH}(hn:Nat.blt d n=true)(hr:op.run P (ev l) h=some (v,h'))
 (next:aG P ds rest (act n ((d,v)::l) D pm ro) h' K):aG P ds (⟨⟨some d,none,op⟩,[]⟩::rest) (act n l D pm ro) h K:=
 .kW rfl v h' AE A4 A5
theorem stepG{t:Nat}{want:Bool}(hn:Nat.blt d n=true)(b:Bool)(ht:lk l t=.bool b)
 (h1:b=want->∃v h',op.run P (ev l) h=some (v,h')/\aG P ds rest (act n ((d,v)::l) D pm ro) h' K)
 (h2:b≠want->aG P ds rest (act n ((d,si)::l) D pm ro) h K):aG P ds (⟨⟨some d,some (t,want),op⟩,[]⟩::rest) (act n l D pm ro) h K:=by
 by_cases e:b=want
 ·obtain⟨v,h',hr,hnx⟩:=h1 e;refine .kW ?_ v h' AE A4 (by rw[pJ hn];exact hnx);show(act n l D pm ro).wants (some (t,want))=some true;rw[Gt,ht,e];cases want<;>rfl
 ·refine .skip ?_ (by rw[pJ hn];exact h2 e);show(act n l D pm ro).wants (some (t,want))=some false;rw[Gt,ht];cases want<;>cases b<;>first|rfl|exact absurd rfl e
end
end
def BF(cf:gU)(K:KR):KO:=λo a h=>
 match o with
 | .normal| .ret=>∃v,qh cf.results a.tmps h=some v/\QL a/\K (.ok v) a.pm h
 | .panic ch=>QL a/\K (.fJ ch) a.pm h
 | .exit _=>False
where QL (a:aV):Prop:=a.defers=[]
theorem aaj{f:FuncId}{args cap:List Value}{pm:Option FrameMode}{h:IH}{K:KR}(fn:Func)(hf:P.funcs[f]? =some fn)(cf:gU)(hcf:tX P fn=some cf)
 (hb:EV P cf.body (zy cf.ntmps (args++cap) pm) h (BF cf K)):CALL P ⟨.func f,args,cap,pm⟩ h K:=by
 refine .enter f (args++cap) (by simp only[target,jF]) fn hf cf hcf _ hb ?_ ?_
 ·intro o a h hm e;cases o with
  |exit _=>exact hm
  |_=>cases e
 ·intro o a h' m hm he;cases o with
  |exit _=>cases hm
  |normal=>
   exact sB
  |ret=>
   exact sB
  |panic ch=>
   obtain⟨h2,h3⟩:=hm;cases he;have h2:a.defers=[]:=h2;rw[h2];exact .fJ ch h3
end Go.Ideal
namespace Go.Ideal
noncomputable def aak(k:Int)(l:List Int):List Int:=
 List.rec (motive:=λ_=>List Int) [k] (λx l ih=>cond (leZ k x) (k::x::l) (x::ih)) l
noncomputable def aal(l:List MapEntry):Option (List Int):=
 List.rec (motive:=λ_=>Option (List Int)) (some []) (λe _ ih=>match e.key,ih with
  | .int .i64 k,some r=>some (aak k r)
  |_,_=>none) l
noncomputable def QM(s f:Nat):Nat->Option (gD->IH->Option (List Value×Nat×Nat)):=λg=>
 cond (Nat.beq g s) (some λq h=>match q.args with
  |[.func (.func f') ⟨[]⟩ ⟨[.pointer (some ⟨b,o,none⟩)]⟩]=>cond (Nat.beq f' f) (match h.nT b o 1 with
   |some [.map (some m)]=>match h.get m with
    |some (.map es _)=>match aal es with
     |some l=>some (lT (λk=>.int .i64 k) l,iF l,1)
     |none=>none
    |_=>none
   |_=>none) none
  |_=>none) none
noncomputable def Lu(a b:dQ):Bool:=
 match a,b with
 | .cells x,.cells y=>pq 5 (.agg ⟨x⟩) (.agg ⟨y⟩)
 |_,_=>false
theorem aam{a b:dQ}(h:Lu a b=true):a=b:=by
 unfold Lu at h;split at h
 ·have:=zP _ _ _ h;injection this with this;injection this with this;rw[this]
 ·cases h
noncomputable def DY(l:List (Nat×dQ))(h:IH):Bool:=
 FO (λp=>match h.get p.1 with
  |some o=>Lu p.2 o
  |none=>false) l
noncomputable def heapT:List (Nat×dQ)->T dQ
 |[]=>.leaf
 |(i,o)::l=>(heapT l).set i (some o)
theorem Lv:∀(l:List (Nat×dQ)) (i:Nat),(heapT l).get i=none\/∃o,(i,o)∈l/\(heapT l).get i=some o
 |[],i=>.inl rfl
 |(j,o)::l,i=>by
  simp only[heapT,T.mZ];by_cases e:i=j
  ·subst e;right;exact⟨o,cZ ..,vm⟩
  ·rw[if_neg e];rcases Lv l i with h|⟨o',h1,h2⟩
   ·exact .inl h
   ·exact .inr ⟨o',dA _ h1,h2⟩
variable{l:List (Nat×dQ)}{h:IH}
theorem QN(hh:DY l h=true):∀i o,(i,o)∈l->h.get i=some o:=by
 intro i o hm;unfold DY at hh;rw[Pj,kR]at hh;have:=hh _ hm;dsimp only at this;split at this
 ·rename_i o' he;rw[he,aam this]
 ·cases this
noncomputable def known(l:List (Nat×dQ))(n:Nat)(fn:Nat)(args:List Value)(v:Value):gD->IH->Option (Value×IH):=λq h=>
 match q with
 |⟨.func f,as,[],none⟩=>cond (Nat.beq f fn&&pq 5 (.tuple ⟨args⟩) (.tuple ⟨as⟩)&&Nat.ble n h.next&&DY l h) (some (v,h)) none
 |_=>none
variable{n fn:Nat}{v:Value}{P:Program}
theorem aan{args:List Value}(hv:bY v=true)(hb:qU n args=true)(hl:l.all (λp=>Nat.blt p.1 n&&De n p.2)=true)
 (hgl:P.globals.size<=n) (hc:CALL P ⟨.func fn,args,[],none⟩ ⟨heapT l,n,n⟩ (λr pm h'=>pm=none/\r=.ok v/\h'.low=n))
 {q:gD} {h:IH} {v':Value} {h':IH} (hk:known l n fn args v q h=some (v',h')):CALL P q h (λr pm h2=>r=.ok v'/\pm=none/\h2=h'):=by
 unfold known at hk;split at hk
 ·rename_i f as;cases hcd:(Nat.beq f fn&&pq 5 (.tuple ⟨args⟩) (.tuple ⟨as⟩)&&Nat.ble n h.next&&DY l h)with
  |false=>rw[hcd]at hk;cases hk
  |true=>
   rw[hcd]at hk;simp only[cond,aA,cO]at hk;obtain⟨rfl,rfl⟩:=hk;simp only[eB]at hcd;obtain⟨⟨⟨h1,h2⟩,h3⟩,h4⟩:=hcd;have h1:=kF h1;subst h1;have h2:=zP _ _ _ h2;injection h2 with h2;injection h2 with h2;subst h2;refine .memo ⟨heapT l,n,n⟩ v hv rfl ?_ (mD h3) hgl ?_ _ hc (λr pm h' h=>h) ⟨rfl,rfl,rfl⟩
   ·show nH n (.func (.func f) ⟨args⟩ ⟨[]⟩)=true;simp[nH,qU,hb]
   ·intro i o ho;rcases Lv l i with e|⟨o',e1,e2⟩
    ·exact absurd (ho.symm.trans e) vm
    ·have:o'=o:=by have:=e2.symm.trans ho;simpa using this
     subst this;rw[kR]at hl;have:=hl _ e1;simp only[eB]at this;exact⟨BB this.1,QN h4 i o' e1,this.2⟩
 ·cases hk
noncomputable def leaves(l:List (Nat×dQ))(n:Nat)(v:Value):BR:=λr pm h=>
 match pm with
 |some _=>false
 |none=>match r with
  | .ok v'=>pq 50 v v'&&Nat.beq h.next n&&Nat.beq h.low 0&&DY l h
  | .fJ _=>false
noncomputable def Lx(l:List (Nat×dQ))(n:Nat)(fn:Nat)(v:Value):gD->IH->Option (Value×IH):=λq h=>
 match q with
 |⟨.func f,[],[],none⟩=>match h with
  |⟨.leaf,0,0⟩=>cond (Nat.beq f fn) (some (v,⟨heapT l,n,0⟩)) none
  |_=>none
 |_=>none
theorem aao(hc:CALL P ⟨.func fn,[],[],none⟩ ⟨.leaf,0,0⟩ (λr pm h'=>leaves l n v r pm h'=true))
 {q:gD} {h:IH} {v':Value} {h':IH} (hk:Lx l n fn v q h=some (v',h')):CALL P q h (λr pm h2=>r=.ok v'/\pm=none/\h2=h'):=by
 unfold Lx at hk;split at hk
 ·rename_i f;split at hk
  ·cases hcd:Nat.beq f fn with
   |false=>rw[hcd]at hk;cases hk
   |true=>
    rw[hcd]at hk;simp only[cond,aA,cO]at hk;obtain⟨rfl,rfl⟩:=hk;have h1:=kF hcd;subst h1;refine .forget _ hc ?_;intro r pm h' hl;unfold leaves at hl;split at hl
    ·cases hl
    ·split at hl
     ·rename_i v';simp only[eB]at hl;obtain⟨⟨⟨h1,h2⟩,h3⟩,h4⟩:=hl;refine⟨⟨heapT l,n,0⟩,(kF h2).symm,(kF h3).symm,?_,?_,rfl,rfl⟩
      ·intro i;rcases Lv l i with e|⟨o,e1,e2⟩
       ·exact .inr ⟨bQ _,e⟩
       ·left;exact e2.trans (QN h4 i o e1).symm
      ·rw[zP _ _ _ h1]
     ·cases hl
  ·cases hk
 ·cases hk
theorem Gu{V:Env}(hV:zQ V){n:Nat}{q:gD}{h:IH}{K:BR}(hb:(Bh V n).call q h K=true):CALL V.P q h (λr pm h=>K r pm h=true):=
 (Ls hV n).call q h K hb
noncomputable def gives(v:Value)(n:Nat):BR:=λr pm h=>match pm with
 |some _=>false
 |none=>match r with
  | .ok v'=>pq 5 v v'&&Nat.beq h.low n
  | .fJ _=>false
theorem QO{r:iP}{pm:Option FrameMode}(hg:gives v n r pm h=true):pm=none/\r=.ok v/\h.low=n:=by
 unfold gives at hg;split at hg
 ·cases hg
 ·split at hg
  ·simp only[eB]at hg;exact⟨rfl,by rw[zP _ _ _ hg.1],kF hg.2⟩
  ·cases hg
