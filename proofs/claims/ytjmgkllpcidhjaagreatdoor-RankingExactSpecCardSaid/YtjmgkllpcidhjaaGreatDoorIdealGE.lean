/-
  The ideal machine, 37: the reckoning is right: what it says true of, the rules give.
-/
import Derived.Test.YtjmgkllpcidhjaaGreatDoorIdealFE
set_option linter.all false
namespace Go.Ideal
theorem eD{a b:Nat}(h:Nat.beq a b=true):a=b:=kW h
def mR{α:Type}(l:List α)(b:Bool):List α:=
 match l with
 |[]=>[]
 |y::l=>match b with
  |true=>y::mR l false
  |false=>mR l true
theorem Iy{α:Type}(l:List α):∀b,(List.rec (motive:=λ_=>Bool->List α) (λ_=>[]) (λy _ r b=>Bool.rec (motive:=λ_=>List α) (r true) (y::r false) b) l:Bool->List α) b=mR l b:=by
 induction l with
 |nil=>intro b;rfl
 |cons y l ih=>intro b;cases b
               ·simp only[mR];exact ih true
               ·simp only[mR];exact congrArg (y::·) (ih false)
theorem zS{α:Type}:∀(l:List α) (k:Nat),(mR l true)[k]? =l[2*k]?/\(mR l false)[k]? =l[2*k+1]?
 |[],k=>by simp[mR]
 |y::l,k=>by
  simp only[mR];refine⟨?_,?_⟩
  ·cases k with
   |zero=>rfl
   |succ k=>rw[lK,(zS l k).2,show 2*(k+1)=(2*k+1)+1 by omega,lK]
  ·rw[(zS l k).1,lK]
theorem Dt{α:Type}:∀(f:Nat) (l:List α) (i:Nat) (x:α),(uE f l).get i=some x->l[i]? =some x
 |0,l,i,x,h=>by cases h
 |f+1,[],i,x,h=>by cases h
 |f+1,y::l,i,x,h=>by
  have e:uE (f+1) (y::l)=.node (some y) (uE f (mR l true)) (uE f (mR l false)):=by
   rw[<- Iy l true,<- Iy l false];rfl
  rw[e]at h;cases i with
  |zero=>exact h
  |succ m=>
   rw[T.nO]at h;rw[lK];split at h
   ·rename_i hm;have:=Dt f _ _ _ h;rw[(zS l _).1]at this
    rwa [show 2*(m/2)=m by omega]at this
   ·rename_i hm;have:=Dt f _ _ _ h;rw[(zS l _).2]at this
    rwa [show 2*(m/2)+1=m by omega]at this
theorem uV{p:Value->Value->Bool}(hp:∀x y,p x y=true->x=y):∀(a b:List Value),
 (List.rec (motive:=λ_=>List Value->Bool) (λb=>match b with|[]=>true|_=>false) (λx _ r b=>match b with|y::b=>cond (p x y) (r b) false|[]=>false) a:List Value->Bool) b=true->a=b
 |[],[],_=>rfl
 |[],_::_,h=>by cases h
 |x::a,[],h=>by cases h
 |x::a,y::b,h=>by
  dsimp only at h;cases hc:p x y with
  |false=>rw[hc]at h;cases h
  |true=>rw[hc]at h;rw[hp x y hc,uV hp a b h]
theorem nS:∀(f:Nat) (v u:Value),ik f v u=true->v=u
 |0,v,u,h=>by cases h
 |f+1,v,u,h=>by
  have ih:=nS f;change (match (generalizing:=false) v,u with
   | .bool a,.bool b=>a==b
   | .int .i64 a,.int .i64 b=>uy a b
   | .int j a,.int k b=>j==k&&a==b
   | .string a,.string b=>a.data.toList==b.data.toList
   | .pointer none,.pointer none=>true
   | .pointer (some ⟨i,o,none⟩),.pointer (some ⟨j,p,none⟩)=>Nat.beq i j&&Nat.beq o p
   | .slice none n c,.slice none m d=>Nat.beq n m&&Nat.beq c d
   | .slice (some ⟨i,o,some f⟩) n c,.slice (some ⟨j,p,some g⟩) m d=>Nat.beq i j&&Nat.beq o p&&Nat.beq f g&&Nat.beq n m&&Nat.beq c d
   | .map none,.map none=>true
   | .map (some i),.map (some j)=>Nat.beq i j
   | .nilIface,.nilIface=>true
   | .nilFunc,.nilFunc=>true
   | .iface t v,.iface s u=>Nat.beq t s&&ik f v u
   | .agg ⟨a⟩,.agg ⟨b⟩=>(List.rec (motive:=λ_=>List Value->Bool) (λb=>match b with|[]=>true|_=>false) (λx _ r b=>match b with|y::b=>cond (ik f x y) (r b) false|[]=>false) a:List Value->Bool) b
   | .tuple ⟨a⟩,.tuple ⟨b⟩=>(List.rec (motive:=λ_=>List Value->Bool) (λb=>match b with|[]=>true|_=>false) (λx _ r b=>match b with|y::b=>cond (ik f x y) (r b) false|[]=>false) a:List Value->Bool) b
   | .func f' ⟨a⟩ ⟨c⟩,.func g ⟨b⟩ ⟨d⟩=>f'==g&&
      (List.rec (motive:=λ_=>List Value->Bool) (λb=>match b with|[]=>true|_=>false) (λx _ r b=>match b with|y::b=>cond (ik f x y) (r b) false|[]=>false) a:List Value->Bool) b&&
      (List.rec (motive:=λ_=>List Value->Bool) (λb=>match b with|[]=>true|_=>false) (λx _ r b=>match b with|y::b=>cond (ik f x y) (r b) false|[]=>false) c:List Value->Bool) d
   |_,_=>false)=true at h
  split at h
  ·rw[eq_of_beq h]
  ·rw[wV]at h;rw[eq_of_beq h]
  ·simp only[di]at h;rw[eq_of_beq h.1,eq_of_beq h.2]
  ·rename_i a b;have:=eq_of_beq h;cases a with|mk a=>cases b with|mk b=>simp only at this;congr 2;exact Array.toList_inj.mp this
  ·rfl
  ·simp only[di]at h;rw[eD h.1,eD h.2]
  ·simp only[di]at h;rw[eD h.1,eD h.2]
  ·simp only[di]at h;rw[eD h.1.1.1.1,eD h.1.1.1.2,eD h.1.1.2,eD h.1.2,eD h.2]
  ·rfl
  ·rw[eD h]
  ·rfl
  ·rfl
  ·simp only[di]at h;rw[eD h.1,ih _ _ h.2]
  ·rw[uV ih _ _ h]
  ·rw[uV ih _ _ h]
  ·simp only[di]at h;rw[eq_of_beq h.1.1,uV ih _ _ h.1.2,uV ih _ _ h.2]
  ·cases h
theorem Du{P:Program}{a:aC}{h:IH}:∀{re:List dN},wJ P re a h=true->
 ∀r∈re,a.wants r.guard≠some false->∃u h2,r.op.run P a.eval h=some (u,h2)/\∀d,r.dst=some d->aU a.tmps d=u
 |[],_,r,hr,_=>by cases hr
 |r0::re,hs,r,hr,hw=>by
  have e:wJ P (r0::re) a h=cond (match a.wants r0.guard with
   |some false=>true
   |_=>match r0.op.run P a.eval h with
    |some (u,_)=>match r0.dst with
     |some d=>ik 50 (aU a.tmps d) u
     |none=>true
    |none=>false) (wJ P re a h) false:=rfl
  rw[e]at hs;cases hc:(match a.wants r0.guard with
   |some false=>true
   |_=>match r0.op.run P a.eval h with
    |some (u,_)=>match r0.dst with
     |some d=>ik 50 (aU a.tmps d) u
     |none=>true
    |none=>false)with
  |false=>rw[hc]at hs;cases hs
  |true=>
   rw[hc]at hs;cases hr with
   |tail _ hr=>exact Du hs r hr hw
   |head=>
    split at hc
    ·rename_i hg;exact absurd hg hw
    ·split at hc
     ·rename_i u h2 hrun;refine⟨u,h2,hrun,λd hd=>?_⟩;rw[hd]at hc;exact nS _ _ _ hc
     ·cases hc
theorem Qc{P:Program}{c:bu}{a:aC}{h:IH}{K:KO}(e:EV P c a h K):∀K':KO,(∀o a h,K o a h->K' o a h)->EV P c a h K':=by
 refine EV.rec (P:=P) (motive_1:=λc a h K _=>∀K':KO,(∀o a h,K o a h->K' o a h)->EV P c a h K')
  (motive_2:=λds l a h K _=>∀K':KO,(∀o a h,K o a h->K' o a h)->ax P ds l a h K')
  (motive_3:=λ_ _ _ _ _ _ _=>True) (motive_4:=λ_ _ _ _=>True)
  ?_ ?_ ?_ ?_ ?_ ?_ ?_ ?_ ?_ ?_ ?_ ?_ ?_ ?_ ?_ ?_ ?_ ?_ ?_ ?_ ?_ ?_ ?_ ?_ ?_ ?_ ?_ ?_ ?_ ?_ ?_ ?_ e
 ·intro a h K hk K' hK;exact .skip (hK _ _ _ hk)
 ·intro ds l a h K ho i K' hK;exact .ops (i K' hK)
 ·intro x y a h K M h1 h2 h3 i1 i2 K' hK;exact .seq M h1 (λa' h' hm=>i2 a' h' hm K' hK) (λo a' h' hm hn=>hK _ _ _ (h3 o a' h' hm hn))
 ·intro c x y a h K hc h1 i1 K' hK;exact .C9 hc (i1 K' hK)
 ·intro c x y a h K hc h1 i1 K' hK;exact .Da hc (i1 K' hK)
 ·intro id c a h K M h1 h2 i1 K' hK;exact .block M h1 (λo a' h' hm=>hK _ _ _ (h2 o a' h' hm))
 ·intro c a h K M h1 h2 h3 i1 i2 K' hK;exact .loop M h1 (λa' h' hm=>i2 a' h' hm K' hK) (λo a' h' hm hn=>hK _ _ _ (h3 o a' h' hm hn))
 ·intro c a h K h1 i1 K' hK;exact .scope (i1 K' hK)
 ·intro id a h K hk K' hK;exact .exit (hK _ _ _ hk)
 ·intro a h K hk K' hK;exact .ret (hK _ _ _ hk)
 ·intro f ps assign body a h K fn first captured hf a1 h1 r hr M hc hok gq i1 K' hK
  exact .rangeFunc fn first captured hf a1 h1 r hr M hc (λv pm h2 hm=>by
   obtain⟨lp,q1,q2,q3⟩:=hok v pm h2 hm;exact⟨lp,q1,q2,hK _ _ _ q3⟩) (λch pm h2 hm=>hK _ _ _ (gq ch pm h2 hm))
 ·intro c a h K a0 hw hn h1 i1 K' hK;exact .weaken a0 hw hn (i1 K' hK)
 ·intro ds a h K hk K' hK;exact .nil (hK _ _ _ hk)
 ·intro ds s l a h K hw h1 i1 K' hK;exact .skip hw (i1 K' hK)
 ·intro ds s l a h K hw v h' hr hs h1 i1 K' hK;exact .fQ hw v h' hr hs (i1 K' hK)
 ·intro ds s l a h K hw q hq M hc hs hok gq i1 i2 K' hK;exact .call hw q hq M hc hs (λv pm h' hm=>i2 v pm h' hm K' hK) (λch pm h' hm=>hK _ _ _ (gq ch pm h' hm))
 ·intro ds s l a h K hw ho hre hm hro h1 i1 K' hK;exact .HY hw ho hre hm hro (i1 K' hK)
 ·intro ds s l a h K hw ho hre m hm hro h1 i1 K' hK;exact .recoverD hw ho hre m hm hro (i1 K' hK)
 ·intro ds s l a h K hw x ho t v hx hk K' hK;exact .panic hw x ho t v hx (hK _ _ _ hk)
 ·intro ds s l a h K hw f args ho hre hro fn first captured hf h1 i1 K' hK;exact .defer hw f args ho hre hro fn first captured hf (i1 K' hK)
 ·intro ds s l a h K hw x ho hre alts ha h1 i1 K' hK;exact .next hw x ho hre alts ha (λvh hv=>i1 vh hv K' hK)
 all_goals intros;trivial
structure Iz(V:Env)(E:Ev):Prop where
 code:∀c a h K,E.code c a h K=true->EV V.P c a h (λo a h=>K o a h=true)
 call:∀q h K,E.call q h K=true->CALL V.P q h (λr pm h=>K r pm h=true)
structure qO(V:Env):Prop where
 memo:∀f q h v h',(V.memo f).bind (λg=>g q h)=some (v,h')->q.pm=none->(∃args,target V.P q=some (f,args))->CALL V.P q h (λr pm h2=>r=.ok v/\pm=none/\h2=h')
 fn:∀f cf,V.F f=some cf->∃fn,V.P.funcs[f]? =some fn/\nL V.P fn=some cf
theorem qP{a b:Bool}(h:cond a b false=true):a=true/\b=true:=by
 cases a with
 |false=>cases h
 |true=>exact⟨rfl,h⟩
section
variable {V:Env} {E:Ev} (hE:Iz V E)
include hE
theorem IA{ds:List Tmp}{s:aK}{l:List aK}{a:aC}{h:IH}{next:aC->IH->Bool}{k:BO}(hw:a.wants s.s.guard=some true)
 (hn:∀a h,next a h=true->ax V.P ds l a h (λo a h=>k o a h=true)) (hb:zx V.P E ds s a h next k=true):ax V.P ds (s::l) a h (λo a h=>k o a h=true):=by
 unfold zx at hb;cases hq:oP s.s.op a.eval with
 |none=>rw[hq]at hb;cases hb
 |some q=>
  rw[hq]at hb;have hc:=hE.call _ _ _ hb;refine .call hw q hq _ hc ?_ ?_ ?_
  ·intro v pm h' hm;exact Du (qP hm).1
  ·intro v pm h' hm;exact hn _ _ (qP hm).2
  ·intro ch pm h' hm;exact hm
omit hE in
theorem Dv{s:aK}{b:Bool}(h:wK s b=true):s.re=[]/\b=true:=by
 unfold wK at h;split at h
 ·rename_i e;exact⟨e,h⟩
 ·cases h
omit hE in
theorem Qd{ds:List Tmp}{s:aK}{l:List aK}{a:aC}{h:IH}{next:aC->IH->Bool}{k:BO}(hw:a.wants s.s.guard=some true)
 (hn:∀a h,next a h=true->ax V.P ds l a h (λo a h=>k o a h=true)) (hb:BU V.P s a h next=true):ax V.P ds (s::l) a h (λo a h=>k o a h=true):=by
 unfold BU at hb;split at hb
 ·rename_i v h' hr;split at hb
  ·rename_i e;exact .fQ hw v h' hr (by rw[e];intro r hr;cases hr) (hn _ _ hb)
  ·exact .fQ hw v h' hr (Du (qP hb).1) (hn _ _ (qP hb).2)
 ·cases hb
theorem Qe{ds:List Tmp}{s:aK}{l:List aK}{a:aC}{h:IH}{next:aC->IH->Bool}{k:BO}(hw:a.wants s.s.guard=some true)
 (hn:∀a h,next a h=true->ax V.P ds l a h (λo a h=>k o a h=true)) (hb:zy V.P E ds s a h next k=true):ax V.P ds (s::l) a h (λo a h=>k o a h=true):=by
 unfold zy at hb;split at hb
 ·exact IA hE hw hn hb
 ·exact IA hE hw hn hb
 ·rename_i ho;obtain⟨hre,hb⟩:=Dv hb;split at hb
  ·cases hb
  ·rename_i hro;split at hb
   ·rename_i hm;exact .HY hw ho hre hm hro (hn _ _ hb)
   ·rename_i m hm;exact .recoverD hw ho hre m hm hro (hn _ _ hb)
 ·rename_i x ho;split at hb
  ·rename_i t v hx;exact .panic hw x ho t v hx hb
  ·cases hb
 ·rename_i f args ho;obtain⟨hre,hb⟩:=Dv hb;split at hb
  ·cases hb
  ·rename_i hro;split at hb
   ·rename_i fn first captured hf
    exact .defer hw f args ho hre hro fn first captured hf (hn _ _ hb)
   ·cases hb
 ·rename_i x ho;obtain⟨hre,hb⟩:=Dv hb;split at hb
  ·rename_i alts ha;refine .next hw x ho hre alts ha λvh hv=>?_
   rw[wO,iA]at hb;exact hn _ _ (hb vh hv)
  ·cases hb
 ·exact Qd hw hn hb
theorem Dw{ds:List Tmp}{k:BO}:∀{l:List aK} {a:aC} {h:IH},wL V.P E ds l a h k=true->ax V.P ds l a h (λo a h=>k o a h=true)
 |[],a,h,hb=>.nil hb
 |s::l,a,h,hb=>by
  have e:wL V.P E ds (s::l) a h k=(match a.wants s.s.guard with
   |some true=>zy V.P E ds s a h (λa h=>wL V.P E ds l a h k) k
   |some false=>wL V.P E ds l (a.put s.s.dst mq) h k
   |none=>false):=rfl
  rw[e]at hb;split at hb
  ·rename_i hw;exact Qe hE hw (λa h h1=>Dw h1) hb
  ·rename_i hw;exact .skip hw (Dw hb)
  ·cases hb
theorem zT{cf:dS}{ts:T Value}:∀{ds:List Deferred} {m:FrameMode} {h:IH} {k:iM->IH->Bool},sH E cf ts ds m h k=true->LEAVE V.P cf ts ds m h (λr h=>k r h=true)
 |[],m,h,k,hb=>by
  have e:sH E cf ts [] m h k=(match (generalizing:=false) m with
   | .returning=>match nM cf.results ts h with
     |some v=>k (.ok v) h
     |none=>false
   | .panicking ch=>k (.dU ch) h
   | .run=>false):=rfl
  rw[e]at hb;split at hb
  ·split at hb
   ·rename_i v hv;exact .ret v hv hb
   ·cases hb
  ·rename_i ch;exact .dU ch hb
  ·cases hb
 |d::ds,m,h,k,hb=>by
  have e:sH E cf ts (d::ds) m h k=(match (generalizing:=false) m with
   | .run=>false
   |m=>match (generalizing:=false) d with
    |{target:=.collected r,.. }=>match h.get r with
     |some (.ig true)=>sH E cf ts ds m (h.set r (.ig false)) k
     |_=>false
    |{target:=.fn fn ⟨captured⟩,args:=⟨args⟩}=>E.call ⟨fn,args,captured,some m⟩ h λr pm h=>match pm with
     |none=>false
     |some m'=>match r with
      | .ok _=>sH E cf ts ds (sG m') h k
      | .dU ch=>sH E cf ts ds (wH m' ch) h k
    |_=>false):=rfl
  rw[e]at hb;split at hb
  ·cases hb
  ·rename_i hm;have hm':m≠.run:=by intro e;exact hm e
   split at hb
   ·rename_i r args;split at hb
    ·rename_i hr;exact .coll hm' r hr (zT hb)
    ·cases hb
   ·rename_i fn captured args;have hc:=hE.call _ _ _ hb;refine .call hm' _ hc ?_ ?_ ?_
    ·intro r pm h' hM e;rw[e]at hM;cases hM
    ·intro v m' h' hM;exact zT hM
    ·intro ch m' h' hM;exact zT hM
   ·cases hb
variable (hV:qO V)
include hV
theorem IB{q:aQ}{f:FuncId}{args:List Value}{h:IH}{k:BR}(ht:target V.P q=some (f,args))(hb:sI V E f args q.pm h k=true):CALL V.P q h (λr pm h=>k r pm h=true):=by
 unfold sI at hb;split at hb
 ·cases hb
 ·rename_i cf hcf;obtain⟨fn,hf,hfn⟩:=hV.fn f cf hcf;have hc:=hE.code _ _ _ _ hb;refine .enter f args ht fn hf cf hfn _ hc ?_ ?_
  ·intro o a' h' hM e;rw[e]at hM;cases hM
  ·intro o a' h' m hM e;rw[e]at hM;exact zT hE hM
omit hV in
theorem Qf{q:aQ}{l:Nat}{h:IH}{k:BR}(hq:q.fn=.yield l)(hpm:q.pm=none)(hb:BV E l q.args h k=true):CALL V.P q h (λr pm h=>k r pm h=true):=by
 unfold BV at hb;split at hb
 ·rename_i r hr;obtain⟨ha,hb⟩:=qP hb;have ha:=eD ha;rw[oV,oV]at ha;have hc:=hE.code _ _ _ _ hb;refine .round l hq hpm r hr ha _ hc ?_ ?_
  ·intro o a' h' hM;split at hM
   ·split at hM
    ·rename_i r1 hr1;split at hM
     ·rename_i hs;exact⟨rfl,r1,hr1,hs⟩
     ·cases hM
    ·cases hM
   ·cases hM
  ·intro a' h' r1 hM hr1;simp only[hr1]at hM;split at hM
   ·have hc2:=hE.code _ _ _ _ hM;refine Qc hc2 _ ?_;intro o a2 h2 hK;unfold Gl at hK;split at hK
    ·rename_i hd;split at hK
     ·rename_i r2 hr2;refine⟨r2,hr2,hd,?_⟩;cases o<;>exact hK
     ·cases hK
    ·cases hK
   ·cases hM
 ·cases hb
omit hE in
theorem Qg{q:aQ}{h:IH}{k:BR}{f:Nat}{args:List Value}{other:Bool}(ht:target V.P q=some (f,args))(ho:other=true->CALL V.P q h (λr pm h=>k r pm h=true))
 (hb:BX V f q h k other=true):CALL V.P q h (λr pm h=>k r pm h=true):=by
 unfold BX at hb;split at hb
 ·exact ho hb
 ·rename_i g hg;split at hb
  ·exact ho hb
  ·rename_i hpm;split at hb
   ·rename_i v h' hv;refine .qM _ (hV.memo f q h v h' (by rw[hg];exact hv) hpm ⟨args,ht⟩) ?_;rintro r pm h2 ⟨rfl,rfl,rfl⟩;exact hb
   ·exact ho hb
theorem Qh(q:aQ)(h:IH)(k:BR)(hb:BZ V E q h k=true):CALL V.P q h (λr pm h=>k r pm h=true):=by
 unfold BZ at hb;split at hb
 ·rename_i l hq;split at hb
  ·rename_i hpm;exact Qf hE hq hpm hb
  ·cases hb
 ·split at hb
  ·cases hb
  ·rename_i f' args ht;refine Qg hV ht (λhb=>?_) hb;split at hb
   ·exact IB hE hV ht hb
   ·rename_i g hg;split at hb
    ·cases hb
    ·rename_i hpm;have hent:∀h k,sI V E f' args none h k=true->CALL V.P q h (λr pm h=>k r pm h=true):=by
      intro h k hh;exact IB hE hV ht (by rw[hpm];exact hh)
     split at hb
     ·rw[hpm]at hb;exact hent _ _ hb
     ·rw[hpm]at hb;exact hent _ _ hb
     ·rename_i cs n f hne Xw;obtain⟨h1,hb⟩:=qP hb;obtain⟨h2,hb⟩:=qP hb;simp only[di,ug]at h1;have hne':cs≠[]:=by
       intro e;subst e;exact hne rfl
      refine .cut cs n f h1.1 hne' ?_ _ (hent _ _ h2) hpm ?_ hb
      ·rcases h1.2 with e|e
       ·exact .inl (eD e)
       ·right;have:=eD e;rw[oV]at this;exact this
      ·intro r pm h' hM;unfold Gm at hM;split at hM
       ·cases hM
       ·split at hM
        ·rename_i i o Xx n' c;obtain⟨h3,h4⟩:=qP hM;simp only[di,ug,za]at h3;obtain⟨⟨⟨⟨e1,e2⟩,e3⟩,e4⟩,e5⟩:=h3;have e1:=eD e1;have e2:=eD e2;subst e1;subst e2;refine⟨rfl,eD e5,i,o,c,rfl,gY e4,?_,?_⟩
         ·intro e;rcases e3 with e3|e3
          ·subst e;cases e3
          ·exact eD e3
         ·split at h4
          ·rename_i l hl;rw[uV (nS 5) _ _ h4]at hl;rw[oV]at hl;rw[hl]
          ·cases h4
        ·cases hM
omit hV in
theorem Qi(c:bu)(a:aC)(h:IH)(k:BO)(hb:zz V E c a h k=true):EV V.P c a h (λo a h=>k o a h=true):=by
 cases c with
 |skip=>exact .skip hb
 |ops ds l=>exact .ops (Dw hE hb)
 |seq x y=>
  refine .seq _ (hE.code _ _ _ _ hb) ?_ ?_
  ·intro a' h' hm;exact hE.code _ _ _ _ hm
  ·intro o a' h' hm hn;cases o with
   |normal=>exact absurd rfl hn
   |exit _=>exact hm
   |ret=>exact hm
   |panic _=>exact hm
 |cond c x y=>
  simp only[zz]at hb;split at hb
  ·rename_i hc;exact .C9 hc (hE.code _ _ _ _ hb)
  ·rename_i hc;exact .Da hc (hE.code _ _ _ _ hb)
  ·cases hb
 |block id c=>exact .block _ (hE.code _ _ _ _ hb) (λo a' h' hm=>hm)
 |loop c=>
  refine .loop _ (hE.code _ _ _ _ hb) ?_ ?_
  ·intro a' h' hm;exact hE.code _ _ _ _ hm
  ·intro o a' h' hm hn;cases o with
   |normal=>exact absurd rfl hn
   |exit _=>exact hm
   |ret=>exact hm
   |panic _=>exact hm
 |scope c=>exact .scope (hE.code _ _ _ _ hb)
 |exit id=>exact .exit hb
 |ret=>exact .ret hb
 |fail=>cases hb
 |rangeFunc f ps assign body=>
  simp only[zz]at hb;split at hb
  ·rename_i fn first captured hf
   split at hb
   ·rename_i hro;refine .rangeFunc fn first captured hf _ _ h.next (.inl ⟨hro,rfl,rfl,rfl⟩) _ (hE.call _ _ _ hb) ?_ ?_
    ·intro v pm h2 hm;dsimp only at hm;split at hm
     ·rename_i lp hlp;split at hm
      ·cases hm
      ·rename_i hs;exact⟨lp,hlp,λe=>hs e,hm⟩
     ·cases hm
    ·intro ch pm h2 hm;exact hm
   ·rename_i l0 hro;split at hb
    ·rename_i r0 hr0;refine .rangeFunc fn first captured hf _ _ r0.defers (.inr ⟨l0,r0,hro,rfl,rfl,hr0,rfl⟩) _ (hE.call _ _ _ hb) ?_ ?_
     ·intro v pm h2 hm;dsimp only at hm;split at hm
      ·rename_i lp hlp;split at hm
       ·cases hm
       ·rename_i hs;exact⟨lp,hlp,λe=>hs e,hm⟩
      ·cases hm
     ·intro ch pm h2 hm;exact hm
    ·cases hb
  ·cases hb
end
theorem Dx{V:Env}(hV:qO V):∀n,Iz V (oQ V n)
 |0=>⟨(λ_ _ _ _ h=>by cases h),(λ_ _ _ h=>by cases h)⟩
 |n+1=>⟨λc a h k hb=>Qi (Dx hV n) c a h k hb,λq h k hb=>Qh (Dx hV n) hV q h k hb⟩
theorem xG(P:Program)(cut memo)(hm:∀f q h v h',(memo f).bind (λg=>g q h)=some (v,h')->q.pm=none->(∃args,target P q=some (f,args))->CALL P q h (λr pm h2=>r=.ok v/\pm=none/\h2=h')):qO (nN P cut memo) where
 memo:=hm
 fn f cf h:=by
  have e:(nN P cut memo).F f=(match (uE 100000 P.funcs.toList).get f with
   |some fn=>nL P fn
   |none=>none):=rfl
  rw[e]at h;split at h
  ·rename_i fn hf;refine⟨fn,?_,h⟩;have:=Dt _ _ _ _ hf;rw[uf]at this;exact this
  ·cases h
end Go.Ideal
namespace Go.Ideal
variable {P:Program}
def lk(l:List (Nat×Value))(k:Nat):Value:=
 match l with
 |[]=>aZ
 |(j,v)::l=>cond (Nat.beq k j) v (lk l k)
noncomputable def jL:List (Nat×Value)->T Value
 |[]=>.leaf
 |(j,v)::l=>(jL l).set j (some v)
theorem mU:∀(l:List (Nat×Value)) (k:Nat),aU (jL l) k=lk l k
 |[],k=>rfl
 |(j,v)::l,k=>by
  have ih:=mU l k;unfold aU at ih⊢;simp only[jL,lk,T.gV];by_cases e:k=j
  ·subst e;simp
  ·have:Nat.beq k j=false:=by
    cases hb:Nat.beq k j with
    |false=>rfl
    |true=>exact absurd (kW hb) e
   rw[if_neg e,this];exact ih
noncomputable def act(n:Nat)(l:List (Nat×Value))(D:List Deferred)(pm:Option FrameMode)(ro:Option Nat):aC:=⟨n,jL l,D,pm,ro⟩
def ev(l:List (Nat×Value))(x:Operand):Value:=
 match x with
 | .tmp t=>lk l t
 | .const v=>v
 | .global g=>.pointer (some ⟨g,0,none⟩)
 | .func f=>.func (.func f) #[] #[]
section
variable {n:Nat} {l:List (Nat×Value)} {D:List Deferred} {pm:Option FrameMode} {ro:Option Nat}
theorem jM:(act n l D pm ro).eval=ev l:=by
 funext x
 cases x with
 |tmp t=>exact mU l t
 |_=>rfl
theorem lu{d:Nat}{v:Value}(h:Nat.blt d n=true):(act n l D pm ro).put (some d) v=act n ((d,v)::l) D pm ro:=by
 simp only[act,aC.put,aC.set,h,cond];rfl
theorem xH(t:Nat)(want:Bool):(act n l D pm ro).wants (some (t,want))=match lk l t with
 | .bool b=>some (cond want b (!b))
 | .chan _=>some false
 |_=>none:=by
 unfold aC.wants;simp only[act,mU];cases lk l t<;>rfl
def weaker(a0 a:aC):Prop:=(∀i,aU a0.tmps i=aZ\/aU a0.tmps i=aU a.tmps i)/\a0.n=a.n/\a0.defers=a.defers/\a0.pm=a.pm/\a0.ro=a.ro
def sub:List (Nat×Value)->List (Nat×Value)->Prop
 |[],_=>True
 |(k,v)::l0,l=>lk l k=v/\sub l0 l
theorem IC:∀{l0 l:List (Nat×Value)},sub l0 l->∀i,lk l0 i=aZ\/lk l0 i=lk l i
 |[],l,_,i=>.inl rfl
 |(k,v)::l0,l,h,i=>by
  simp only[lk];cases hb:Nat.beq i k with
  |true=>right;rw[kW hb];exact h.1.symm
  |false=>exact IC h.2 i
theorem IE{l0:List (Nat×Value)}(h:sub l0 l):weaker (act n l0 D pm ro) (act n l D pm ro):=
 ⟨λi=>by simp only[act,mU];exact IC h i,rfl,rfl,rfl,rfl⟩
def uW(P:Program)(y:bu)(K:KO):KO:=λo a h=>match o with
 | .normal=>EV P y a h K
 |o=>K o a h
theorem Qj{x y:bu}{a:aC}{h:IH}{K:KO}(h1:EV P x a h (uW P y K)):EV P (.seq x y) a h K:=
 .seq _ h1 (λ_ _ hm=>hm) (λo a' h' hm hn=>by
  cases o with
  |normal=>exact absurd rfl hn
  |_=>exact hm)
def pJ(id:Nat)(K:KO):KO:=λo a h=>K (inBlock id o) a h
theorem Qk{id:Nat}{c:bu}{a:aC}{h:IH}{K:KO}(h1:EV P c a h (pJ id K)):EV P (.block id c) a h K:=.block _ h1 (λ_ _ _ hm=>hm)
theorem xI{c:Operand}{x y:bu}{h:IH}{K:KO}(b:Bool)(hc:ev l c=.bool b)(h1:b=true->EV P x (act n l D pm ro) h K)(h2:b=false->EV P y (act n l D pm ro) h K):EV P (.cond c x y) (act n l D pm ro) h K:=by
 cases b with
 |true=>exact .C9 (by rw[jM];exact hc) (h1 rfl)
 |false=>exact .Da (by rw[jM];exact hc) (h2 rfl)
def pK(I:Nat->aC->IH->Prop)(m:Nat)(K:KO):KO:=λo a h=>match o with
 | .normal=>∃m' a0,m'<m/\weaker a0 a/\I m' a0 h
 |o=>K o a h
theorem Ql{c:bu}{K:KO}(I:Nat->aC->IH->Prop)(hb:∀m a h,I m a h->EV P c a h (pK I m K)):∀m a h,I m a h->EV P (.loop c) a h K:=by
 intro m;induction m using Nat.strongRecOn with
 |ind m ih=>
  intro a h hI;refine .loop _ (hb m a h hI) ?_ ?_
  ·rintro a' h' ⟨m',a0,hlt,hw,hI'⟩;exact .weaken a0 hw.1 hw.2 (ih m' hlt a0 h' hI')
  ·intro o a' h' hm hn;cases o with
   |normal=>exact absurd rfl hn
   |_=>exact hm
theorem Qm{c:bu}{a:aC}{h:IH}{K:KO}{a0:aC}(hw:weaker a0 a)(h1:EV P c a0 h K):EV P c a h K:=.weaken a0 hw.1 hw.2 h1
section
variable {ds:List Tmp} {rest:List aK} {h:IH} {K:KO}
theorem step{d:Nat}{op:ae}{v:Value}{h':IH}(hn:Nat.blt d n=true)(hr:op.run P (ev l) h=some (v,h'))
 (next:ax P ds rest (act n ((d,v)::l) D pm ro) h' K):ax P ds (⟨⟨some d,none,op⟩,[]⟩::rest) (act n l D pm ro) h K:=
 .fQ rfl v h' (by rw[jM];exact hr) (by intro r hr;cases hr) (by rw[lu hn];exact next)
theorem stepG{d t:Nat}{want:Bool}{op:ae}(hn:Nat.blt d n=true)(b:Bool)(ht:lk l t=.bool b)
 (h1:b=want->∃v h',op.run P (ev l) h=some (v,h')/\ax P ds rest (act n ((d,v)::l) D pm ro) h' K)
 (h2:b≠want->ax P ds rest (act n ((d,mq)::l) D pm ro) h K):ax P ds (⟨⟨some d,some (t,want),op⟩,[]⟩::rest) (act n l D pm ro) h K:=by
 by_cases e:b=want
 ·obtain⟨v,h',hr,hnx⟩:=h1 e;refine .fQ ?_ v h' (by rw[jM];exact hr) (by intro r hr;cases hr) (by rw[lu hn];exact hnx);show(act n l D pm ro).wants (some (t,want))=some true;rw[xH,ht,e];cases want<;>rfl
 ·refine .skip ?_ (by rw[lu hn];exact h2 e);show(act n l D pm ro).wants (some (t,want))=some false;rw[xH,ht];cases want<;>cases b<;>first|rfl|exact absurd rfl e
end
end
def xJ(cf:dS)(K:KR):KO:=λo a h=>
 match o with
 | .normal| .ret=>∃v,nM cf.results a.tmps h=some v/\IG a/\K (.ok v) a.pm h
 | .panic ch=>IG a/\K (.dU ch) a.pm h
 | .exit _=>False
where IG (a:aC):Prop:=a.defers=[]
theorem Qn{f:FuncId}{args cap:List Value}{pm:Option FrameMode}{h:IH}{K:KR}(fn:Func)(hf:P.funcs[f]? =some fn)(cf:dS)(hcf:nL P fn=some cf)
 (hb:EV P cf.body (uA cf.ntmps (args++cap) pm) h (xJ cf K)):CALL P ⟨.func f,args,cap,pm⟩ h K:=by
 refine .enter f (args++cap) (by simp only[target,fP]) fn hf cf hcf _ hb ?_ ?_
 ·intro o a h hm e;cases o with
  |exit _=>exact hm
  |_=>cases e
 ·intro o a h' m hm he;cases o with
  |exit _=>cases hm
  |normal=>
   obtain⟨v,h1,h2,h3⟩:=hm;cases he;have h2:a.defers=[]:=h2;rw[h2];exact .ret v h1 h3
  |ret=>
   obtain⟨v,h1,h2,h3⟩:=hm;cases he;have h2:a.defers=[]:=h2;rw[h2];exact .ret v h1 h3
  |panic ch=>
   obtain⟨h2,h3⟩:=hm;cases he;have h2:a.defers=[]:=h2;rw[h2];exact .dU ch h3
end Go.Ideal
namespace Go.Ideal
noncomputable def zU(a b:aM):Bool:=
 match a,b with
 | .cells x,.cells y=>ik 5 (.agg ⟨x⟩) (.agg ⟨y⟩)
 |_,_=>false
theorem II{a b:aM}(h:zU a b=true):a=b:=by
 unfold zU at h;split at h
 ·have:=nS _ _ _ h;injection this with this;injection this with this;rw[this]
 ·cases h
noncomputable def sU(l:List (Nat×aM))(h:IH):Bool:=
 sj (λp=>match h.get p.1 with
  |some o=>zU p.2 o
  |none=>false) l
noncomputable def heapT:List (Nat×aM)->T aM
 |[]=>.leaf
 |(i,o)::l=>(heapT l).set i (some o)
theorem sV:∀(l:List (Nat×aM)) (i:Nat),(heapT l).get i=none\/∃o,(i,o)∈l/\(heapT l).get i=some o
 |[],i=>.inl rfl
 |(j,o)::l,i=>by
  simp only[heapT,T.gV];by_cases e:i=j
  ·subst e;right;exact⟨o,aT ..,by simp⟩
  ·rw[if_neg e];rcases sV l i with h|⟨o',h1,h2⟩
   ·exact .inl h
   ·exact .inr ⟨o',bB _ h1,h2⟩
theorem Dy{l:List (Nat×aM)}{h:IH}(hh:sU l h=true):∀i o,(i,o)∈l->h.get i=some o:=by
 intro i o hm;unfold sU at hh;rw[wO,iA]at hh;have:=hh _ hm;dsimp only at this;split at this
 ·rename_i o' he;rw[he,II this]
 ·cases this
noncomputable def known(l:List (Nat×aM))(n:Nat)(fn:Nat)(args:List Value)(v:Value):aQ->IH->Option (Value×IH):=λq h=>
 match q with
 |⟨.func f,as,[],none⟩=>cond (Nat.beq f fn&&ik 5 (.tuple ⟨args⟩) (.tuple ⟨as⟩)&&Nat.ble n h.next&&sU l h) (some (v,h)) none
 |_=>none
theorem sW{V:Env}(hV:qO V){n:Nat}{q:aQ}{h:IH}{K:BR}(hb:(oQ V n).call q h K=true):CALL V.P q h (λr pm h=>K r pm h=true):=
 (Dx hV n).call q h K hb
noncomputable def gives(v:Value)(n:Nat):BR:=λr pm h=>match pm with
 |some _=>false
 |none=>match r with
  | .ok v'=>ik 5 v v'&&Nat.beq h.low n
  | .dU _=>false
theorem IJ{v:Value}{n:Nat}{r:iM}{pm:Option FrameMode}{h:IH}(hg:gives v n r pm h=true):pm=none/\r=.ok v/\h.low=n:=by
 unfold gives at hg;split at hg
 ·cases hg
 ·split at hg
  ·simp only[di]at hg;exact⟨rfl,by rw[nS _ _ _ hg.1],eD hg.2⟩
  ·cases hg
