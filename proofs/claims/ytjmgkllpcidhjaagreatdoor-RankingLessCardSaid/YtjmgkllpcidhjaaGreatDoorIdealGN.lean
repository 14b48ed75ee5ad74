/-
  The ideal machine, 37: the reckoning is right: what it says true of, the rules give.
-/
import Derived.Test.YtjmgkllpcidhjaaGreatDoorIdealFN
set_option linter.all false
namespace Go.Ideal
theorem fZ{a b:Nat}(h:Nat.beq a b=true):a=b:=nU h
def rH{α:Type}(l:List α)(b:Bool):List α:=
 match l with
 |[]=>[]
 |y::l=>match b with
  |true=>y::rH l false
  |false=>rH l true
theorem PD{α:Type}(l:List α):∀b,(List.rec (motive:=λ_=>Bool->List α) (λ_=>[]) (λy _ r b=>Bool.rec (motive:=λ_=>List α) (r true) (y::r false) b) l:Bool->List α) b=rH l b:=by
 induction l with
 |nil=>intro b;rfl
 |cons y l ih=>intro b;cases b
               ·simp only[rH];exact ih true
               ·simp only[rH];exact congrArg (y::·) (ih false)
theorem Fj{α:Type}:∀(l:List α) (k:Nat),(rH l true)[k]? =l[2*k]?/\(rH l false)[k]? =l[2*k+1]?
 |[],k=>by simp[rH]
 |y::l,k=>by
  simp only[rH];refine⟨?_,?_⟩
  ·cases k with
   |zero=>rfl
   |succ k=>rw[oW,(Fj l k).2,show 2*(k+1)=(2*k+1)+1 by omega,oW]
  ·rw[(Fj l k).1,oW]
theorem JM{α:Type}:∀(f:Nat) (l:List α) (i:Nat) (x:α),(zB f l).get i=some x->l[i]? =some x
 |0,l,i,x,h=>by cases h
 |f+1,[],i,x,h=>by cases h
 |f+1,y::l,i,x,h=>by
  have e:zB (f+1) (y::l)=.node (some y) (zB f (rH l true)) (zB f (rH l false)):=by
   rw[<- PD l true,<- PD l false];rfl
  rw[e]at h;cases i with
  |zero=>exact h
  |succ m=>
   rw[T.sO]at h;rw[oW];split at h
   ·rename_i hm;have:=JM f _ _ _ h;rw[(Fj l _).1]at this
    rwa [show 2*(m/2)=m by omega]at this
   ·rename_i hm;have:=JM f _ _ _ h;rw[(Fj l _).2]at this
    rwa [show 2*(m/2)+1=m by omega]at this
theorem zU{p:Value->Value->Bool}(hp:∀x y,p x y=true->x=y):∀(a b:List Value),
 (List.rec (motive:=λ_=>List Value->Bool) (λb=>match b with|[]=>true|_=>false) (λx _ r b=>match b with|y::b=>cond (p x y) (r b) false|[]=>false) a:List Value->Bool) b=true->a=b
 |[],[],_=>rfl
 |[],_::_,h=>by cases h
 |x::a,[],h=>by cases h
 |x::a,y::b,h=>by
  dsimp only at h;cases hc:p x y with
  |false=>rw[hc]at h;cases h
  |true=>rw[hc]at h;rw[hp x y hc,zU hp a b h]
theorem sS:∀(f:Nat) (v u:Value),j4 f v u=true->v=u
 |0,v,u,h=>by cases h
 |f+1,v,u,h=>by
  have ih:=sS f;change (match (generalizing:=false) v,u with
   | .bool a,.bool b=>a==b
   | .int .i64 a,.int .i64 b=>zq a b
   | .int j a,.int k b=>j==k&&a==b
   | .string a,.string b=>a.data.toList==b.data.toList
   | .pointer none,.pointer none=>true
   | .pointer (some ⟨i,o,none⟩),.pointer (some ⟨j,p,none⟩)=>Nat.beq i j&&Nat.beq o p
   | .slice none n c,.slice none m d=>Nat.beq n m&&Nat.beq c d
   | .slice (some ⟨i,o,some f⟩) n c,.slice (some ⟨j,p,some g⟩) m d=>Nat.beq i j&&Nat.beq o p&&Nat.beq f g&&Nat.beq n m&&Nat.beq c d
   | .map none,.map none=>true
   | .map (some i),.map (some j)=>Nat.beq i j
   | .nilIface,.nilIface=>true
   | .nilFunc,.nilFunc=>true
   | .iface t v,.iface s u=>Nat.beq t s&&j4 f v u
   | .agg ⟨a⟩,.agg ⟨b⟩=>(List.rec (motive:=λ_=>List Value->Bool) (λb=>match b with|[]=>true|_=>false) (λx _ r b=>match b with|y::b=>cond (j4 f x y) (r b) false|[]=>false) a:List Value->Bool) b
   | .tuple ⟨a⟩,.tuple ⟨b⟩=>(List.rec (motive:=λ_=>List Value->Bool) (λb=>match b with|[]=>true|_=>false) (λx _ r b=>match b with|y::b=>cond (j4 f x y) (r b) false|[]=>false) a:List Value->Bool) b
   | .func f' ⟨a⟩ ⟨c⟩,.func g ⟨b⟩ ⟨d⟩=>f'==g&&
      (List.rec (motive:=λ_=>List Value->Bool) (λb=>match b with|[]=>true|_=>false) (λx _ r b=>match b with|y::b=>cond (j4 f x y) (r b) false|[]=>false) a:List Value->Bool) b&&
      (List.rec (motive:=λ_=>List Value->Bool) (λb=>match b with|[]=>true|_=>false) (λx _ r b=>match b with|y::b=>cond (j4 f x y) (r b) false|[]=>false) c:List Value->Bool) d
   |_,_=>false)=true at h
  split at h
  ·rw[eq_of_beq h]
  ·rw[BZ]at h;rw[eq_of_beq h]
  ·simp only[eG]at h;rw[eq_of_beq h.1,eq_of_beq h.2]
  ·rename_i a b;have:=eq_of_beq h;cases a with|mk a=>cases b with|mk b=>simp only at this;congr 2;exact Array.toList_inj.mp this
  ·rfl
  ·simp only[eG]at h;rw[fZ h.1,fZ h.2]
  ·simp only[eG]at h;rw[fZ h.1,fZ h.2]
  ·simp only[eG]at h;rw[fZ h.1.1.1.1,fZ h.1.1.1.2,fZ h.1.1.2,fZ h.1.2,fZ h.2]
  ·rfl
  ·rw[fZ h]
  ·rfl
  ·rfl
  ·simp only[eG]at h;rw[fZ h.1,ih _ _ h.2]
  ·rw[zU ih _ _ h]
  ·rw[zU ih _ _ h]
  ·simp only[eG]at h;rw[eq_of_beq h.1.1,zU ih _ _ h.1.2,zU ih _ _ h.2]
  ·cases h
theorem JN{P:Program}{a:aR}{h:IH}:∀{re:List fC},BI P re a h=true->
 ∀r∈re,a.wants r.guard≠some false->∃u h2,r.op.run P a.eval h=some (u,h2)/\∀d,r.dst=some d->bV a.tmps d=u
 |[],_,r,hr,_=>by cases hr
 |r0::re,hs,r,hr,hw=>by
  have e:BI P (r0::re) a h=cond (match a.wants r0.guard with
   |some false=>true
   |_=>match r0.op.run P a.eval h with
    |some (u,_)=>match r0.dst with
     |some d=>j4 50 (bV a.tmps d) u
     |none=>true
    |none=>false) (BI P re a h) false:=rfl
  rw[e]at hs;cases hc:(match a.wants r0.guard with
   |some false=>true
   |_=>match r0.op.run P a.eval h with
    |some (u,_)=>match r0.dst with
     |some d=>j4 50 (bV a.tmps d) u
     |none=>true
    |none=>false)with
  |false=>rw[hc]at hs;cases hs
  |true=>
   rw[hc]at hs;cases hr with
   |tail _ hr=>exact JN hs r hr hw
   |head=>
    split at hc
    ·rename_i hg;exact absurd hg hw
    ·split at hc
     ·rename_i u h2 hrun;refine⟨u,h2,hrun,λd hd=>?_⟩;rw[hd]at hc;exact sS _ _ _ hc
     ·cases hc
theorem PE{P:Program}{c:cB}{a:aR}{h:IH}{K:KO}(e:EV P c a h K):∀K':KO,(∀o a h,K o a h->K' o a h)->EV P c a h K':=by
 refine EV.rec (P:=P) (motive_1:=λc a h K _=>∀K':KO,(∀o a h,K o a h->K' o a h)->EV P c a h K')
  (motive_2:=λds l a h K _=>∀K':KO,(∀o a h,K o a h->K' o a h)->aB P ds l a h K')
  (motive_3:=λ_ _ _ _ _ _ _=>True) (motive_4:=λ_ _ _ _=>True)
  ?_ ?_ ?_ ?_ ?_ ?_ ?_ ?_ ?_ ?_ ?_ ?_ ?_ ?_ ?_ ?_ ?_ ?_ ?_ ?_ ?_ ?_ ?_ ?_ ?_ ?_ ?_ ?_ ?_ ?_ ?_ ?_ e
 ·intro a h K hk K' hK;exact .skip (hK _ _ _ hk)
 ·intro ds l a h K ho i K' hK;exact .ops (i K' hK)
 ·intro x y a h K M h1 h2 h3 i1 i2 K' hK;exact .seq M h1 (λa' h' hm=>i2 a' h' hm K' hK) (λo a' h' hm hn=>hK _ _ _ (h3 o a' h' hm hn))
 ·intro c x y a h K hc h1 i1 K' hK;exact .Jz hc (i1 K' hK)
 ·intro c x y a h K hc h1 i1 K' hK;exact .JA hc (i1 K' hK)
 ·intro id c a h K M h1 h2 i1 K' hK;exact .block M h1 (λo a' h' hm=>hK _ _ _ (h2 o a' h' hm))
 ·intro c a h K M h1 h2 h3 i1 i2 K' hK;exact .loop M h1 (λa' h' hm=>i2 a' h' hm K' hK) (λo a' h' hm hn=>hK _ _ _ (h3 o a' h' hm hn))
 ·intro c a h K h1 i1 K' hK;exact .scope (i1 K' hK)
 ·intro id a h K hk K' hK;exact .exit (hK _ _ _ hk)
 ·intro a h K hk K' hK;exact .ret (hK _ _ _ hk)
 ·intro f ps assign body a h K fn first captured hf a1 h1 r hr M hc hok iM i1 K' hK
  exact .rangeFunc fn first captured hf a1 h1 r hr M hc (λv pm h2 hm=>by
   obtain⟨lp,q1,q2,q3⟩:=hok v pm h2 hm;exact⟨lp,q1,q2,hK _ _ _ q3⟩) (λch pm h2 hm=>hK _ _ _ (iM ch pm h2 hm))
 ·intro c a h K a0 hw hn h1 i1 K' hK;exact .weaken a0 hw hn (i1 K' hK)
 ·intro ds a h K hk K' hK;exact .nil (hK _ _ _ hk)
 ·intro ds s l a h K hw h1 i1 K' hK;exact .skip hw (i1 K' hK)
 ·intro ds s l a h K hw v h' hr hs h1 i1 K' hK;exact .jb hw v h' hr hs (i1 K' hK)
 ·intro ds s l a h K hw q hq M hc hs hok iM i1 i2 K' hK;exact .call hw q hq M hc hs (λv pm h' hm=>i2 v pm h' hm K' hK) (λch pm h' hm=>hK _ _ _ (iM ch pm h' hm))
 ·intro ds s l a h K hw ho hre hm hro h1 i1 K' hK;exact .O7 hw ho hre hm hro (i1 K' hK)
 ·intro ds s l a h K hw ho hre m hm hro h1 i1 K' hK;exact .recoverD hw ho hre m hm hro (i1 K' hK)
 ·intro ds s l a h K hw x ho t v hx hk K' hK;exact .panic hw x ho t v hx (hK _ _ _ hk)
 ·intro ds s l a h K hw f args ho hre hro fn first captured hf h1 i1 K' hK;exact .defer hw f args ho hre hro fn first captured hf (i1 K' hK)
 ·intro ds s l a h K hw x ho hre alts ha h1 i1 K' hK;exact .next hw x ho hre alts ha (λvh hv=>i1 vh hv K' hK)
 all_goals intros;trivial
structure PG(V:Env)(E:Ev):Prop where
 code:∀c a h K,E.code c a h K=true->EV V.P c a h (λo a h=>K o a h=true)
 call:∀q h K,E.call q h K=true->CALL V.P q h (λr pm h=>K r pm h=true)
structure wy(V:Env):Prop where
 memo:∀f q h v h',(V.memo f).bind (λg=>g q h)=some (v,h')->q.pm=none->(∃args,target V.P q=some (f,args))->CALL V.P q h (λr pm h2=>r=.ok v/\pm=none/\h2=h')
 fn:∀f cf,V.F f=some cf->∃fn,V.P.funcs[f]? =some fn/\qX V.P fn=some cf
theorem wz{a b:Bool}(h:cond a b false=true):a=true/\b=true:=by
 cases a with
 |false=>cases h
 |true=>exact⟨rfl,h⟩
section
variable {V:Env} {E:Ev} (hE:PG V E)
include hE
theorem PI{ds:List Tmp}{s:aY}{l:List aY}{a:aR}{h:IH}{next:aR->IH->Bool}{k:BO}(hw:a.wants s.s.guard=some true)
 (hn:∀a h,next a h=true->aB V.P ds l a h (λo a h=>k o a h=true)) (hb:EM V.P E ds s a h next k=true):aB V.P ds (s::l) a h (λo a h=>k o a h=true):=by
 unfold EM at hb;cases hq:uA s.s.op a.eval with
 |none=>rw[hq]at hb;cases hb
 |some q=>
  rw[hq]at hb;have hc:=hE.call _ _ _ hb;refine .call hw q hq _ hc ?_ ?_ ?_
  ·intro v pm h' hm;exact JN (wz hm).1
  ·intro v pm h' hm;exact hn _ _ (wz hm).2
  ·intro ch pm h' hm;exact hm
omit hE in
theorem JO{s:aY}{b:Bool}(h:BJ s b=true):s.re=[]/\b=true:=by
 unfold BJ at h;split at h
 ·rename_i e;exact⟨e,h⟩
 ·cases h
omit hE in
theorem Zp{ds:List Tmp}{s:aY}{l:List aY}{a:aR}{h:IH}{next:aR->IH->Bool}{k:BO}(hw:a.wants s.s.guard=some true)
 (hn:∀a h,next a h=true->aB V.P ds l a h (λo a h=>k o a h=true)) (hb:II V.P s a h next=true):aB V.P ds (s::l) a h (λo a h=>k o a h=true):=by
 unfold II at hb;split at hb
 ·rename_i v h' hr;split at hb
  ·rename_i e;exact .jb hw v h' hr (by rw[e];intro r hr;cases hr) (hn _ _ hb)
  ·exact .jb hw v h' hr (JN (wz hb).1) (hn _ _ (wz hb).2)
 ·cases hb
theorem Zq{ds:List Tmp}{s:aY}{l:List aY}{a:aR}{h:IH}{next:aR->IH->Bool}{k:BO}(hw:a.wants s.s.guard=some true)
 (hn:∀a h,next a h=true->aB V.P ds l a h (λo a h=>k o a h=true)) (hb:EN V.P E ds s a h next k=true):aB V.P ds (s::l) a h (λo a h=>k o a h=true):=by
 unfold EN at hb;split at hb
 ·exact PI hE hw hn hb
 ·exact PI hE hw hn hb
 ·rename_i ho;obtain⟨hre,hb⟩:=JO hb;split at hb
  ·cases hb
  ·rename_i hro;split at hb
   ·rename_i hm;exact .O7 hw ho hre hm hro (hn _ _ hb)
   ·rename_i m hm;exact .recoverD hw ho hre m hm hro (hn _ _ hb)
 ·rename_i x ho;split at hb
  ·rename_i t v hx;exact .panic hw x ho t v hx hb
  ·cases hb
 ·rename_i f args ho;obtain⟨hre,hb⟩:=JO hb;split at hb
  ·cases hb
  ·rename_i hro;split at hb
   ·rename_i fn first captured hf
    exact .defer hw f args ho hre hro fn first captured hf (hn _ _ hb)
   ·cases hb
 ·rename_i x ho;obtain⟨hre,hb⟩:=JO hb;split at hb
  ·rename_i alts ha;refine .next hw x ho hre alts ha λvh hv=>?_
   rw[BM,iB]at hb;exact hn _ _ (hb vh hv)
  ·cases hb
 ·exact Zp hw hn hb
theorem JP{ds:List Tmp}{k:BO}:∀{l:List aY} {a:aR} {h:IH},BK V.P E ds l a h k=true->aB V.P ds l a h (λo a h=>k o a h=true)
 |[],a,h,hb=>.nil hb
 |s::l,a,h,hb=>by
  have e:BK V.P E ds (s::l) a h k=(match a.wants s.s.guard with
   |some true=>EN V.P E ds s a h (λa h=>BK V.P E ds l a h k) k
   |some false=>BK V.P E ds l (a.put s.s.dst qW) h k
   |none=>false):=rfl
  rw[e]at hb;split at hb
  ·rename_i hw;exact Zq hE hw (λa h h1=>JP h1) hb
  ·rename_i hw;exact .skip hw (JP hb)
  ·cases hb
theorem Fp{cf:eX}{ts:T Value}:∀{ds:List Deferred} {m:FrameMode} {h:IH} {k:gU->IH->Bool},xL E cf ts ds m h k=true->LEAVE V.P cf ts ds m h (λr h=>k r h=true)
 |[],m,h,k,hb=>by
  have e:xL E cf ts [] m h k=(match (generalizing:=false) m with
   | .returning=>match pO cf.results ts h with
     |some v=>k (.ok v) h
     |none=>false
   | .panicking ch=>k (.fI ch) h
   | .run=>false):=rfl
  rw[e]at hb;split at hb
  ·split at hb
   ·rename_i v hv;exact .ret v hv hb
   ·cases hb
  ·rename_i ch;exact .fI ch hb
  ·cases hb
 |d::ds,m,h,k,hb=>by
  have e:xL E cf ts (d::ds) m h k=(match (generalizing:=false) m with
   | .run=>false
   |m=>match (generalizing:=false) d with
    |{target:=.collected r,.. }=>match h.get r with
     |some (.fV true)=>xL E cf ts ds m (h.set r (.fV false)) k
     |_=>false
    |{target:=.fn fn ⟨captured⟩,args:=⟨args⟩}=>E.call ⟨fn,args,captured,some m⟩ h λr pm h=>match pm with
     |none=>false
     |some m'=>match r with
      | .ok _=>xL E cf ts ds (vU m') h k
      | .fI ch=>xL E cf ts ds (zy m' ch) h k
    |_=>false):=rfl
  rw[e]at hb;split at hb
  ·cases hb
  ·rename_i hm;have hm':m≠.run:=by intro e;exact hm e
   split at hb
   ·rename_i r args;split at hb
    ·rename_i hr;exact .coll hm' r hr (Fp hb)
    ·cases hb
   ·rename_i fn captured args;have hc:=hE.call _ _ _ hb;refine .call hm' _ hc ?_ ?_ ?_
    ·intro r pm h' hM e;rw[e]at hM;cases hM
    ·intro v m' h' hM;exact Fp hM
    ·intro ch m' h' hM;exact Fp hM
   ·cases hb
variable (hV:wy V)
include hV
theorem PK{q:bQ}{f:FuncId}{args:List Value}{h:IH}{k:BR}(ht:target V.P q=some (f,args))(hb:xM V E f args q.pm h k=true):CALL V.P q h (λr pm h=>k r pm h=true):=by
 unfold xM at hb;split at hb
 ·cases hb
 ·rename_i cf hcf;obtain⟨fn,hf,hfn⟩:=hV.fn f cf hcf;have hc:=hE.code _ _ _ _ hb;refine .enter f args ht fn hf cf hfn _ hc ?_ ?_
  ·intro o a' h' hM e;rw[e]at hM;cases hM
  ·intro o a' h' m hM e;rw[e]at hM;exact Fp hE hM
omit hV in
theorem Zr{q:bQ}{l:Nat}{h:IH}{k:BR}(hq:q.fn=.yield l)(hpm:q.pm=none)(hb:IJ E l q.args h k=true):CALL V.P q h (λr pm h=>k r pm h=true):=by
 unfold IJ at hb;split at hb
 ·rename_i r hr;obtain⟨ha,hb⟩:=wz hb;have ha:=fZ ha;rw[rf,rf]at ha;have hc:=hE.code _ _ _ _ hb;refine .round l hq hpm r hr ha _ hc ?_ ?_
  ·intro o a' h' hM;split at hM
   ·split at hM
    ·rename_i r1 hr1;split at hM
     ·rename_i hs;exact⟨rfl,r1,hr1,hs⟩
     ·cases hM
    ·cases hM
   ·cases hM
  ·intro a' h' r1 hM hr1;simp only[hr1]at hM;split at hM
   ·have hc2:=hE.code _ _ _ _ hM;refine PE hc2 _ ?_;intro o a2 h2 hK;unfold N9 at hK;split at hK
    ·rename_i hd;split at hK
     ·rename_i r2 hr2;refine⟨r2,hr2,hd,?_⟩;cases o<;>exact hK
     ·cases hK
    ·cases hK
   ·cases hM
 ·cases hb
omit hE in
theorem Zt{q:bQ}{h:IH}{k:BR}{f:Nat}{args:List Value}{other:Bool}(ht:target V.P q=some (f,args))(ho:other=true->CALL V.P q h (λr pm h=>k r pm h=true))
 (hb:IK V f q h k other=true):CALL V.P q h (λr pm h=>k r pm h=true):=by
 unfold IK at hb;split at hb
 ·exact ho hb
 ·rename_i g hg;split at hb
  ·exact ho hb
  ·rename_i hpm;split at hb
   ·rename_i v h' hv;refine .uK _ (hV.memo f q h v h' (by rw[hg];exact hv) hpm ⟨args,ht⟩) ?_;rintro r pm h2 ⟨rfl,rfl,rfl⟩;exact hb
   ·exact ho hb
theorem Zu(q:bQ)(h:IH)(k:BR)(hb:IL V E q h k=true):CALL V.P q h (λr pm h=>k r pm h=true):=by
 unfold IL at hb;split at hb
 ·rename_i l hq;split at hb
  ·rename_i hpm;exact Zr hE hq hpm hb
  ·cases hb
 ·split at hb
  ·cases hb
  ·rename_i f' args ht;refine Zt hV ht (λhb=>?_) hb;split at hb
   ·exact PK hE hV ht hb
   ·rename_i g hg;split at hb
    ·cases hb
    ·rename_i hpm;have hent:∀h k,xM V E f' args none h k=true->CALL V.P q h (λr pm h=>k r pm h=true):=by
      intro h k hh;exact PK hE hV ht (by rw[hpm];exact hh)
     split at hb
     ·rw[hpm]at hb;exact hent _ _ hb
     ·rw[hpm]at hb;exact hent _ _ hb
     ·rename_i cs n f hne hgq;obtain⟨h1,hb⟩:=wz hb;obtain⟨h2,hb⟩:=wz hb;simp only[eG,y8]at h1;have hne':cs≠[]:=by
       intro e;subst e;exact hne rfl
      refine .cut cs n f h1.1 hne' ?_ _ (hent _ _ h2) hpm ?_ hb
      ·rcases h1.2 with e|e
       ·exact .inl (fZ e)
       ·right;have:=fZ e;rw[rf]at this;exact this
      ·intro r pm h' hM;unfold Oa at hM;split at hM
       ·cases hM
       ·split at hM
        ·rename_i i o f'' n' c;obtain⟨h3,h4⟩:=wz hM;simp only[eG,y8,zh]at h3;obtain⟨⟨⟨⟨e1,e2⟩,e3⟩,e4⟩,e5⟩:=h3;have e1:=fZ e1;have e2:=fZ e2;subst e1;subst e2;refine⟨rfl,fZ e5,i,o,c,rfl,jY e4,?_,?_⟩
         ·intro e;rcases e3 with e3|e3
          ·subst e;cases e3
          ·exact fZ e3
         ·split at h4
          ·rename_i l hl;rw[zU (sS 5) _ _ h4]at hl;rw[rf]at hl;rw[hl]
          ·cases h4
        ·cases hM
omit hV in
theorem Zv(c:cB)(a:aR)(h:IH)(k:BO)(hb:EO V E c a h k=true):EV V.P c a h (λo a h=>k o a h=true):=by
 cases c with
 |skip=>exact .skip hb
 |ops ds l=>exact .ops (JP hE hb)
 |seq x y=>
  refine .seq _ (hE.code _ _ _ _ hb) ?_ ?_
  ·intro a' h' hm;exact hE.code _ _ _ _ hm
  ·intro o a' h' hm hn;cases o with
   |normal=>exact absurd rfl hn
   |exit _=>exact hm
   |ret=>exact hm
   |panic _=>exact hm
 |cond c x y=>
  simp only[EO]at hb;split at hb
  ·rename_i hc;exact .Jz hc (hE.code _ _ _ _ hb)
  ·rename_i hc;exact .JA hc (hE.code _ _ _ _ hb)
  ·cases hb
 |block id c=>exact .block _ (hE.code _ _ _ _ hb) (λo a' h' hm=>hm)
 |loop c=>
  refine .loop _ (hE.code _ _ _ _ hb) ?_ ?_
  ·intro a' h' hm;exact hE.code _ _ _ _ hm
  ·intro o a' h' hm hn;cases o with
   |normal=>exact absurd rfl hn
   |exit _=>exact hm
   |ret=>exact hm
   |panic _=>exact hm
 |scope c=>exact .scope (hE.code _ _ _ _ hb)
 |exit id=>exact .exit hb
 |ret=>exact .ret hb
 |fail=>cases hb
 |rangeFunc f ps assign body=>
  simp only[EO]at hb;split at hb
  ·rename_i fn first captured hf
   split at hb
   ·rename_i hro;refine .rangeFunc fn first captured hf _ _ h.next (.inl ⟨hro,rfl,rfl,rfl⟩) _ (hE.call _ _ _ hb) ?_ ?_
    ·intro v pm h2 hm;dsimp only at hm;split at hm
     ·rename_i lp hlp;split at hm
      ·cases hm
      ·rename_i hs;exact⟨lp,hlp,λe=>hs e,hm⟩
     ·cases hm
    ·intro ch pm h2 hm;exact hm
   ·rename_i l0 hro;split at hb
    ·rename_i r0 hr0;refine .rangeFunc fn first captured hf _ _ r0.defers (.inr ⟨l0,r0,hro,rfl,rfl,hr0,rfl⟩) _ (hE.call _ _ _ hb) ?_ ?_
     ·intro v pm h2 hm;dsimp only at hm;split at hm
      ·rename_i lp hlp;split at hm
       ·cases hm
       ·rename_i hs;exact⟨lp,hlp,λe=>hs e,hm⟩
      ·cases hm
     ·intro ch pm h2 hm;exact hm
    ·cases hb
  ·cases hb
end
theorem JQ{V:Env}(hV:wy V):∀n,PG V (uB V n)
 |0=>⟨(λ_ _ _ _ h=>by cases h),(λ_ _ _ h=>by cases h)⟩
 |n+1=>⟨λc a h k hb=>Zv (JQ hV n) c a h k hb,λq h k hb=>Zu (JQ hV n) hV q h k hb⟩
theorem zV(P:Program)(cut memo)(hm:∀f q h v h',(memo f).bind (λg=>g q h)=some (v,h')->q.pm=none->(∃args,target P q=some (f,args))->CALL P q h (λr pm h2=>r=.ok v/\pm=none/\h2=h')):wy (pR P cut memo) where
 memo:=hm
 fn f cf h:=by
  have e:(pR P cut memo).F f=(match (zB 100000 P.funcs.toList).get f with
   |some fn=>qX P fn
   |none=>none):=rfl
  rw[e]at h;split at h
  ·rename_i fn hf;refine⟨fn,?_,h⟩;have:=JM _ _ _ _ hf;rw[uk]at this;exact this
  ·cases h
end Go.Ideal
namespace Go.Ideal
variable {P:Program}
def lk(l:List (Nat×Value))(k:Nat):Value:=
 match l with
 |[]=>bU
 |(j,v)::l=>cond (Nat.beq k j) v (lk l k)
noncomputable def gp:List (Nat×Value)->T Value
 |[]=>.leaf
 |(j,v)::l=>(gp l).set j (some v)
theorem rJ:∀(l:List (Nat×Value)) (k:Nat),bV (gp l) k=lk l k
 |[],k=>rfl
 |(j,v)::l,k=>by
  have ih:=rJ l k;unfold bV at ih⊢;simp only[gp,lk,T.jC];by_cases e:k=j
  ·subst e;simp
  ·have:Nat.beq k j=false:=by
    cases hb:Nat.beq k j with
    |false=>rfl
    |true=>exact absurd (nU hb) e
   rw[if_neg e,this];exact ih
noncomputable def act(n:Nat)(l:List (Nat×Value))(D:List Deferred)(pm:Option FrameMode)(ro:Option Nat):aR:=⟨n,gp l,D,pm,ro⟩
def ev(l:List (Nat×Value))(x:Operand):Value:=
 match x with
 | .tmp t=>lk l t
 | .const v=>v
 | .global g=>.pointer (some ⟨g,0,none⟩)
 | .func f=>.func (.func f) #[] #[]
section
variable {n:Nat} {l:List (Nat×Value)} {D:List Deferred} {pm:Option FrameMode} {ro:Option Nat}
theorem jT:(act n l D pm ro).eval=ev l:=by
 funext x
 cases x with
 |tmp t=>exact rJ l t
 |_=>rfl
theorem l6{d:Nat}{v:Value}(h:Nat.blt d n=true):(act n l D pm ro).put (some d) v=act n ((d,v)::l) D pm ro:=by
 simp only[act,aR.put,aR.set,h,cond];rfl
theorem Cz(t:Nat)(want:Bool):(act n l D pm ro).wants (some (t,want))=match lk l t with
 | .bool b=>some (cond want b (!b))
 | .chan _=>some false
 |_=>none:=by
 unfold aR.wants;simp only[act,rJ];cases lk l t<;>rfl
def weaker(a0 a:aR):Prop:=(∀i,bV a0.tmps i=bU\/bV a0.tmps i=bV a.tmps i)/\a0.n=a.n/\a0.defers=a.defers/\a0.pm=a.pm/\a0.ro=a.ro
def sub:List (Nat×Value)->List (Nat×Value)->Prop
 |[],_=>True
 |(k,v)::l0,l=>lk l k=v/\sub l0 l
theorem PL:∀{l0 l:List (Nat×Value)},sub l0 l->∀i,lk l0 i=bU\/lk l0 i=lk l i
 |[],l,_,i=>.inl rfl
 |(k,v)::l0,l,h,i=>by
  simp only[lk];cases hb:Nat.beq i k with
  |true=>right;rw[nU hb];exact h.1.symm
  |false=>exact PL h.2 i
theorem PM{l0:List (Nat×Value)}(h:sub l0 l):weaker (act n l0 D pm ro) (act n l D pm ro):=
 ⟨λi=>by simp only[act,rJ];exact PL h i,rfl,rfl,rfl,rfl⟩
def zW(P:Program)(y:cB)(K:KO):KO:=λo a h=>match o with
 | .normal=>EV P y a h K
 |o=>K o a h
theorem Zw{x y:cB}{a:aR}{h:IH}{K:KO}(h1:EV P x a h (zW P y K)):EV P (.seq x y) a h K:=
 .seq _ h1 (λ_ _ hm=>hm) (λo a' h' hm hn=>by
  cases o with
  |normal=>exact absurd rfl hn
  |_=>exact hm)
def uN(id:Nat)(K:KO):KO:=λo a h=>K (inBlock id o) a h
theorem Zx{id:Nat}{c:cB}{a:aR}{h:IH}{K:KO}(h1:EV P c a h (uN id K)):EV P (.block id c) a h K:=.block _ h1 (λ_ _ _ hm=>hm)
theorem CB{c:Operand}{x y:cB}{h:IH}{K:KO}(b:Bool)(hc:ev l c=.bool b)(h1:b=true->EV P x (act n l D pm ro) h K)(h2:b=false->EV P y (act n l D pm ro) h K):EV P (.cond c x y) (act n l D pm ro) h K:=by
 cases b with
 |true=>exact .Jz (by rw[jT];exact hc) (h1 rfl)
 |false=>exact .JA (by rw[jT];exact hc) (h2 rfl)
def uO(I:Nat->aR->IH->Prop)(m:Nat)(K:KO):KO:=λo a h=>match o with
 | .normal=>∃m' a0,m'<m/\weaker a0 a/\I m' a0 h
 |o=>K o a h
theorem Zy{c:cB}{K:KO}(I:Nat->aR->IH->Prop)(hb:∀m a h,I m a h->EV P c a h (uO I m K)):∀m a h,I m a h->EV P (.loop c) a h K:=by
 intro m;induction m using Nat.strongRecOn with
 |ind m ih=>
  intro a h hI;refine .loop _ (hb m a h hI) ?_ ?_
  ·rintro a' h' ⟨m',a0,hlt,hw,hI'⟩;exact .weaken a0 hw.1 hw.2 (ih m' hlt a0 h' hI')
  ·intro o a' h' hm hn;cases o with
   |normal=>exact absurd rfl hn
   |_=>exact hm
theorem Zz{c:cB}{a:aR}{h:IH}{K:KO}{a0:aR}(hw:weaker a0 a)(h1:EV P c a0 h K):EV P c a h K:=.weaken a0 hw.1 hw.2 h1
section
variable {ds:List Tmp} {rest:List aY} {h:IH} {K:KO}
theorem step{d:Nat}{op:ak}{v:Value}{h':IH}(hn:Nat.blt d n=true)(hr:op.run P (ev l) h=some (v,h'))
 (next:aB P ds rest (act n ((d,v)::l) D pm ro) h' K):aB P ds (⟨⟨some d,none,op⟩,[]⟩::rest) (act n l D pm ro) h K:=
 .jb rfl v h' (by rw[jT];exact hr) (by intro r hr;cases hr) (by rw[l6 hn];exact next)
theorem stepG{d t:Nat}{want:Bool}{op:ak}(hn:Nat.blt d n=true)(b:Bool)(ht:lk l t=.bool b)
 (h1:b=want->∃v h',op.run P (ev l) h=some (v,h')/\aB P ds rest (act n ((d,v)::l) D pm ro) h' K)
 (h2:b≠want->aB P ds rest (act n ((d,qW)::l) D pm ro) h K):aB P ds (⟨⟨some d,some (t,want),op⟩,[]⟩::rest) (act n l D pm ro) h K:=by
 by_cases e:b=want
 ·obtain⟨v,h',hr,hnx⟩:=h1 e;refine .jb ?_ v h' (by rw[jT];exact hr) (by intro r hr;cases hr) (by rw[l6 hn];exact hnx);show(act n l D pm ro).wants (some (t,want))=some true;rw[Cz,ht,e];cases want<;>rfl
 ·refine .skip ?_ (by rw[l6 hn];exact h2 e);show(act n l D pm ro).wants (some (t,want))=some false;rw[Cz,ht];cases want<;>cases b<;>first|rfl|exact absurd rfl e
end
end
def CE(cf:eX)(K:KR):KO:=λo a h=>
 match o with
 | .normal| .ret=>∃v,pO cf.results a.tmps h=some v/\PN a/\K (.ok v) a.pm h
 | .panic ch=>PN a/\K (.fI ch) a.pm h
 | .exit _=>False
where PN (a:aR):Prop:=a.defers=[]
theorem ZA{f:FuncId}{args cap:List Value}{pm:Option FrameMode}{h:IH}{K:KR}(fn:Func)(hf:P.funcs[f]? =some fn)(cf:eX)(hcf:qX P fn=some cf)
 (hb:EV P cf.body (xJ cf.ntmps (args++cap) pm) h (CE cf K)):CALL P ⟨.func f,args,cap,pm⟩ h K:=by
 refine .enter f (args++cap) (by simp only[target,gV]) fn hf cf hcf _ hb ?_ ?_
 ·intro o a h hm e;cases o with
  |exit _=>exact hm
  |_=>cases e
 ·intro o a h' m hm he;cases o with
  |exit _=>cases hm
  |normal=>
   obtain⟨v,h1,h2,h3⟩:=hm;cases he;have h2:a.defers=[]:=h2;rw[h2];exact .ret v h1 h3
  |ret=>
   obtain⟨v,h1,h2,h3⟩:=hm;cases he;have h2:a.defers=[]:=h2;rw[h2];exact .ret v h1 h3
  |panic ch=>
   obtain⟨h2,h3⟩:=hm;cases he;have h2:a.defers=[]:=h2;rw[h2];exact .fI ch h3
end Go.Ideal
namespace Go.Ideal
noncomputable def Fq(a b:bB):Bool:=
 match a,b with
 | .cells x,.cells y=>j4 5 (.agg ⟨x⟩) (.agg ⟨y⟩)
 |_,_=>false
theorem PO{a b:bB}(h:Fq a b=true):a=b:=by
 unfold Fq at h;split at h
 ·have:=sS _ _ _ h;injection this with this;injection this with this;rw[this]
 ·cases h
noncomputable def xW(l:List (Nat×bB))(h:IH):Bool:=
 xD (λp=>match h.get p.1 with
  |some o=>Fq p.2 o
  |none=>false) l
noncomputable def heapT:List (Nat×bB)->T bB
 |[]=>.leaf
 |(i,o)::l=>(heapT l).set i (some o)
theorem xX:∀(l:List (Nat×bB)) (i:Nat),(heapT l).get i=none\/∃o,(i,o)∈l/\(heapT l).get i=some o
 |[],i=>.inl rfl
 |(j,o)::l,i=>by
  simp only[heapT,T.jC];by_cases e:i=j
  ·subst e;right;exact⟨o,bz ..,by simp⟩
  ·rw[if_neg e];rcases xX l i with h|⟨o',h1,h2⟩
   ·exact .inl h
   ·exact .inr ⟨o',dh _ h1,h2⟩
theorem JR{l:List (Nat×bB)}{h:IH}(hh:xW l h=true):∀i o,(i,o)∈l->h.get i=some o:=by
 intro i o hm;unfold xW at hh;rw[BM,iB]at hh;have:=hh _ hm;dsimp only at this;split at this
 ·rename_i o' he;rw[he,PO this]
 ·cases this
noncomputable def known(l:List (Nat×bB))(n:Nat)(fn:Nat)(args:List Value)(v:Value):bQ->IH->Option (Value×IH):=λq h=>
 match q with
 |⟨.func f,as,[],none⟩=>cond (Nat.beq f fn&&j4 5 (.tuple ⟨args⟩) (.tuple ⟨as⟩)&&Nat.ble n h.next&&xW l h) (some (v,h)) none
 |_=>none
theorem xY{V:Env}(hV:wy V){n:Nat}{q:bQ}{h:IH}{K:BR}(hb:(uB V n).call q h K=true):CALL V.P q h (λr pm h=>K r pm h=true):=
 (JQ hV n).call q h K hb
noncomputable def gives(v:Value)(n:Nat):BR:=λr pm h=>match pm with
 |some _=>false
 |none=>match r with
  | .ok v'=>j4 5 v v'&&Nat.beq h.low n
  | .fI _=>false
theorem PP{v:Value}{n:Nat}{r:gU}{pm:Option FrameMode}{h:IH}(hg:gives v n r pm h=true):pm=none/\r=.ok v/\h.low=n:=by
 unfold gives at hg;split at hg
 ·cases hg
 ·split at hg
  ·simp only[eG]at hg;exact⟨rfl,by rw[sS _ _ _ hg.1],fZ hg.2⟩
  ·cases hg
