/- Part. -/
import Derived.Test.YtignbinlipkmfaaGreatDoorIdealEG
set_option linter.all false
namespace Go.Ideal
def jg{a b:Nat}(h:Nat.beq a b=true):a=b:=rq h
def vZ{α:Type}(l:ae α)(b:Bool):ae α:=
 match l with
 |[]=>[]
 |y::l=>match b with
  |true=>y::vZ l false
  |false=>vZ l true
def UN{α:Type}(l:ae α):∀b,(List.rec (motive:=λ_=>Bool->ae α) (λ_=>[]) (λy _ r b=>Bool.rec (motive:=λ_=>ae α) (r true) (y::r false) b) l:Bool->ae α) b=vZ l b:=by
 induction l with
 |nil=>intro b;rfl
 |cons y l ih=>intro b;cases b
               .simp only[vZ];exact ih true
               .simp only[vZ];exact congrArg (y::·) (ih false)
def Jw{α:Type}:∀(l:ae α) (k:Nat),(vZ l true)[k]? =l[2*k]?/\(vZ l false)[k]? =l[2*k+1]?
 |[],k=>by simp[vZ]
 |y::l,k=>by
  simp only[vZ];refine⟨?_,?_⟩
  .cases k with
   |zero=>rfl
   |succ k=>rw[ru,(Jw l k).2,show 2*(k+1)=(2*k+1)+1 by omega,ru]
  .rw[(Jw l k).1,ru]
def Oy{α:Type}:∀(f:Nat) (l:ae α) (i:Nat) (x:α),(Dy f l).get i=some x->l[i]? =some x
 |0,l,i,x,h=>by cases h
 |f+1,[],i,x,h=>by cases h
 |f+1,y::l,i,x,h=>by
  have e:Dy (f+1) (y::l)=.node (some y) (Dy f (vZ l true)) (Dy f (vZ l false)):=by
   rw[<- UN l true,<- UN l false];rfl
  rw[e]at h;cases i with
  |zero=>exact h
  |succ m=>
   rw[T.xg]at h;rw[ru];split at h
   .rename_i hm;have:=Oy f _ _ _ h;rw[(Jw l _).1]at this
    rwa [show 2*(m/2)=m by omega]at this
   .rename_i hm;have:=Oy f _ _ _ h;rw[(Jw l _).2]at this
    rwa [show 2*(m/2)+1=m by omega]at this
def Ea{p:ah->ah->Bool}(hp:∀x y,p x y=true->x=y):∀(a b:ae ah),
 (List.rec (motive:=λ_=>ae ah->Bool) (λb=>match b with|[]=>true|_=>false) (λx _ r b=>match b with|y::b=>cond (p x y) (r b) false|[]=>false) a:ae ah->Bool) b=true->a=b
 |[],[],_=>rfl
 |[],_::_,h=>by cases h
 |x::a,[],h=>by cases h
 |x::a,y::b,h=>by
  dsimp only at h;cases hc:p x y with
  |false=>rw[hc]at h;cases h
  |true=>rw[hc]at h;rw[hp x y hc,Ea hp a b h]
def xu:∀(f:Nat) (v u:ah),nH f v u=true->v=u
 |0,v,u,h=>by cases h
 |f+1,v,u,h=>by
  have ih:=xu f;change (match (generalizing:=false) v,u with
   | .bool a,.bool b=>a==b
   | .int .i64 a,.int .i64 b=>Du a b
   | .int j a,.int k b=>j==k&&a==b
   | .string a,.string b=>a.data.toList==b.data.toList
   | .pointer none,.pointer none=>true
   | .pointer (some ⟨i,o,none⟩),.pointer (some ⟨j,p,none⟩)=>Nat.beq i j&&Nat.beq o p
   | .slice none n c,.slice none m d=>Nat.beq n m&&Nat.beq c d
   | .slice (some ⟨i,o,some f⟩) n c,.slice (some ⟨j,p,some g⟩) m d=>Nat.beq i j&&Nat.beq o p&&Nat.beq f g&&Nat.beq n m&&Nat.beq c d
   | .map none,.map none=>true
   | .map (some i),.map (some j)=>Nat.beq i j
   | .nilIface,.nilIface=>true
   | .nilFunc,.nilFunc=>true
   | .iface t v,.iface s u=>Nat.beq t s&&nH f v u
   | .agg ⟨a⟩,.agg ⟨b⟩=>(List.rec (motive:=λ_=>ae ah->Bool) (λb=>match b with|[]=>true|_=>false) (λx _ r b=>match b with|y::b=>cond (nH f x y) (r b) false|[]=>false) a:ae ah->Bool) b
   | .tuple ⟨a⟩,.tuple ⟨b⟩=>(List.rec (motive:=λ_=>ae ah->Bool) (λb=>match b with|[]=>true|_=>false) (λx _ r b=>match b with|y::b=>cond (nH f x y) (r b) false|[]=>false) a:ae ah->Bool) b
   | .func f' ⟨a⟩ ⟨c⟩,.func g ⟨b⟩ ⟨d⟩=>f'==g&&
      (List.rec (motive:=λ_=>ae ah->Bool) (λb=>match b with|[]=>true|_=>false) (λx _ r b=>match b with|y::b=>cond (nH f x y) (r b) false|[]=>false) a:ae ah->Bool) b&&
      (List.rec (motive:=λ_=>ae ah->Bool) (λb=>match b with|[]=>true|_=>false) (λx _ r b=>match b with|y::b=>cond (nH f x y) (r b) false|[]=>false) c:ae ah->Bool) d
   |_,_=>false)=true at h
  split at h
  .rw[eq_of_beq h]
  .rw[DU]at h;rw[eq_of_beq h]
  .simp only[dG]at h;rw[eq_of_beq h.1,eq_of_beq h.2]
  .rename_i a b;have:=eq_of_beq h;cases a with|mk a=>cases b with|mk b=>simp only at this;congr 2;exact Array.toList_inj.mp this
  .rfl
  .simp only[dG]at h;rw[jg h.1,jg h.2]
  .simp only[dG]at h;rw[jg h.1,jg h.2]
  .simp only[dG]at h;rw[jg h.1.1.1.1,jg h.1.1.1.2,jg h.1.1.2,jg h.1.2,jg h.2]
  .rfl
  .rw[jg h]
  .rfl
  .rfl
  .simp only[dG]at h;rw[jg h.1,ih _ _ h.2]
  .rw[Ea ih _ _ h]
  .rw[Ea ih _ _ h]
  .simp only[dG]at h;rw[eq_of_beq h.1.1,Ea ih _ _ h.1.2,Ea ih _ _ h.2]
  .cases h
def Oz{P:Program}{a:aU}{h:IH}:∀{re:ae iy},FN P re a h=true->
 ∀r∈re,a.wants r.guard≠some false->∃u h2,r.op.run P a.eval h=some (u,h2)/\∀d,r.dst=some d->dD a.tmps d=u
 |[],_,r,hr,_=>by cases hr
 |r0::re,hs,r,hr,hw=>by
  have e:FN P (r0::re) a h=cond (match a.wants r0.guard with
   |some false=>true
   |_=>match r0.op.run P a.eval h with
    |some (u,_)=>match r0.dst with
     |some d=>nH 50 (dD a.tmps d) u
     |none=>true
    |none=>false) (FN P re a h) false:=rfl
  rw[e]at hs;cases hc:(match a.wants r0.guard with
   |some false=>true
   |_=>match r0.op.run P a.eval h with
    |some (u,_)=>match r0.dst with
     |some d=>nH 50 (dD a.tmps d) u
     |none=>true
    |none=>false)with
  |false=>rw[hc]at hs;cases hs
  |true=>
   rw[hc]at hs;cases hr with
   |tail _ hr=>exact Oz hs r hr hw
   |head=>
    split at hc
    .rename_i hg;exact absurd hg hw
    .split at hc
     .rename_i u h2 hrun;refine⟨u,h2,hrun,λd hd=>?_⟩;rw[hd]at hc;exact xu _ _ _ hc
     .cases hc
def OB{P:Program}{c:cK}{a:aU}{h:IH}{K:KO}(e:EV P c a h K):∀K':KO,(∀o a h,K o a h->K' o a h)->EV P c a h K':=by
 refine EV.rec (P:=P) (motive_1:=λc a h K _=>∀K':KO,(∀o a h,K o a h->K' o a h)->EV P c a h K')
  (motive_2:=λds l a h K _=>∀K':KO,(∀o a h,K o a h->K' o a h)->aK P ds l a h K')
  (motive_3:=λ_ _ _ _ _ _ _=>True) (motive_4:=λ_ _ _ _=>True)
  ?_ ?_ ?_ ?_ ?_ ?_ ?_ ?_ ?_ ?_ ?_ ?_ ?_ ?_ ?_ ?_ ?_ ?_ ?_ ?_ ?_ ?_ ?_ ?_ ?_ ?_ ?_ ?_ ?_ ?_ ?_ ?_ e
 .intro a h K hk K' hK;exact .skip (hK _ _ _ hk)
 .intro ds l a h K ho i K' hK;exact .ops (i K' hK)
 .intro x y a h K M h1 h2 h3 i1 i2 K' hK;exact .seq M h1 (λa' h' hm=>i2 a' h' hm K' hK) (λo a' h' hm hn=>hK _ _ _ (h3 o a' h' hm hn))
 .intro c x y a h K hc h1 i1 K' hK;exact .Oi hc (i1 K' hK)
 .intro c x y a h K hc h1 i1 K' hK;exact .Oj hc (i1 K' hK)
 .intro id c a h K M h1 h2 i1 K' hK;exact .block M h1 (λo a' h' hm=>hK _ _ _ (h2 o a' h' hm))
 .intro c a h K M h1 h2 h3 i1 i2 K' hK;exact .loop M h1 (λa' h' hm=>i2 a' h' hm K' hK) (λo a' h' hm hn=>hK _ _ _ (h3 o a' h' hm hn))
 .intro c a h K h1 i1 K' hK;exact .scope (i1 K' hK)
 .intro id a h K hk K' hK;exact .exit (hK _ _ _ hk)
 .intro a h K hk K' hK;exact .ret (hK _ _ _ hk)
 .intro f ps assign body a h K fn first captured hf a1 h1 r hr M hc hok jv i1 K' hK
  exact .rangeFunc fn first captured hf a1 h1 r hr M hc (λv pm h2 hm=>by
   obtain⟨lp,q1,q2,q3⟩:=hok v pm h2 hm;exact⟨lp,q1,q2,hK _ _ _ q3⟩) (λch pm h2 hm=>hK _ _ _ (jv ch pm h2 hm))
 .intro c a h K a0 hw hn h1 i1 K' hK;exact .weaken a0 hw hn (i1 K' hK)
 .intro ds a h K hk K' hK;exact .nil (hK _ _ _ hk)
 .intro ds s l a h K hw h1 i1 K' hK;exact .skip hw (i1 K' hK)
 .intro ds s l a h K hw v h' hr hs h1 i1 K' hK;exact .lZ hw v h' hr hs (i1 K' hK)
 .intro ds s l a h K hw q hq M hc hs hok jv i1 i2 K' hK;exact .call hw q hq M hc hs (λv pm h' hm=>i2 v pm h' hm K' hK) (λch pm h' hm=>hK _ _ _ (jv ch pm h' hm))
 .intro ds s l a h K hw ho hre hm hro h1 i1 K' hK;exact .Uq hw ho hre hm hro (i1 K' hK)
 .intro ds s l a h K hw ho hre m hm hro h1 i1 K' hK;exact .recoverD hw ho hre m hm hro (i1 K' hK)
 .intro ds s l a h K hw x ho t v hx hk K' hK;exact .panic hw x ho t v hx (hK _ _ _ hk)
 .intro ds s l a h K hw f args ho hre hro fn first captured hf h1 i1 K' hK;exact .defer hw f args ho hre hro fn first captured hf (i1 K' hK)
 .intro ds s l a h K hw x ho hre alts ha h1 i1 K' hK;exact .next hw x ho hre alts ha (λvh hv=>i1 vh hv K' hK)
 all_goals intros;trivial
structure UO(V:Env)(E:Ev):Prop where
 code:∀c a h K,E.code c a h K=true->EV V.P c a h (λo a h=>K o a h=true)
 call:∀q h K,E.call q h K=true->CALL V.P q h (λr pm h=>K r pm h=true)
structure qH(V:Env):Prop where
 memo:∀f q h v h',(V.memo f).bind (λg=>g q h)=some (v,h')->q.pm=none->(∃args,target V.P q=some (f,args))->CALL V.P q h (λr pm h2=>r=.ok v/\pm=none/\h2=h')
 fn:∀f cf,V.F f=some cf->∃fn,V.P.funcs[f]? =some fn/\vJ V.P fn=some cf
def Am{a b:Bool}(h:cond a b false=true):a=true/\b=true:=by
 cases a with
 |false=>cases h
 |true=>exact⟨rfl,h⟩
section
variable {V:Env} {E:Ev} (hE:UO V E)
include hE
variable{h:IH}{s:bJ}{ds:ae Tmp}{l:ae bJ}{a:aU}{next:aU->IH->Bool}{k:BO}
def UQ(hw:a.wants s.s.guard=some true)
 (hn:∀a h,next a h=true->aK V.P ds l a h (λo a h=>k o a h=true)) (hb:I9 V.P E ds s a h next k=true):aK V.P ds (s::l) a h (λo a h=>k o a h=true):=by
 unfold I9 at hb;cases hq:yD s.s.op a.eval with
 |none=>rw[hq]at hb;cases hb
 |some q=>
  rw[hq]at hb;have hc:=hE.call _ _ _ hb;refine .call hw q hq _ hc ?_ ?_ ?_
  .intro v pm h' hm;exact Oz (Am hm).1
  .intro v pm h' hm;exact hn _ _ (Am hm).2
  .intro ch pm h' hm;exact hm
omit hE in
def OC{b:Bool}(h:FO s b=true):s.re=[]/\b=true:=by
 unfold FO at h;split at h
 .rename_i e;exact⟨e,h⟩
 .cases h
omit hE in
def afo(hw:a.wants s.s.guard=some true)
 (hn:∀a h,next a h=true->aK V.P ds l a h (λo a h=>k o a h=true)) (hb:Nu V.P s a h next=true):aK V.P ds (s::l) a h (λo a h=>k o a h=true):=by
 unfold Nu at hb;split at hb
 .rename_i v h' hr;split at hb
  .rename_i e;exact .lZ hw v h' hr (by rw[e];intro r hr;cases hr) (hn _ _ hb)
  .exact .lZ hw v h' hr (Oz (Am hb).1) (hn _ _ (Am hb).2)
 .cases hb
def afp(hw:a.wants s.s.guard=some true)
 (hn:∀a h,next a h=true->aK V.P ds l a h (λo a h=>k o a h=true)) (hb:Ja V.P E ds s a h next k=true):aK V.P ds (s::l) a h (λo a h=>k o a h=true):=by
 unfold Ja at hb;split at hb
 .exact UQ hE hw hn hb
 .exact UQ hE hw hn hb
 .rename_i ho;obtain⟨hre,hb⟩:=OC hb;split at hb
  .cases hb
  .rename_i hro;split at hb
   .rename_i hm;exact .Uq hw ho hre hm hro (hn _ _ hb)
   .rename_i m hm;exact .recoverD hw ho hre m hm hro (hn _ _ hb)
 .rename_i x ho;split at hb
  .rename_i t v hx;exact .panic hw x ho t v hx hb
  .cases hb
 .rename_i f args ho;obtain⟨hre,hb⟩:=OC hb;split at hb
  .cases hb
  .rename_i hro;split at hb
   .rename_i fn first captured hf
    exact .defer hw f args ho hre hro fn first captured hf (hn _ _ hb)
   .cases hb
 .rename_i x ho;obtain⟨hre,hb⟩:=OC hb;split at hb
  .rename_i alts ha;refine .next hw x ho hre alts ha λvh hv=>?_
   rw[DF,iE]at hb;exact hn _ _ (hb vh hv)
  .cases hb
 .exact afo hw hn hb
def OD{ds:ae Tmp}{k:BO}:∀{l:ae bJ} {a:aU} {h:IH},FP V.P E ds l a h k=true->aK V.P ds l a h (λo a h=>k o a h=true)
 |[],a,h,hb=>.nil hb
 |s::l,a,h,hb=>by
  have e:FP V.P E ds (s::l) a h k=(match a.wants s.s.guard with
   |some true=>Ja V.P E ds s a h (λa h=>FP V.P E ds l a h k) k
   |some false=>FP V.P E ds l (a.put s.s.dst um) h k
   |none=>false):=rfl
  rw[e]at hb;split at hb
  .rename_i hw;exact afp hE hw (λa h h1=>OD h1) hb
  .rename_i hw;exact .skip hw (OD hb)
  .cases hb
def Jy{cf:gK}{ts:T ah}:∀{ds:ae Deferred} {m:FrameMode} {h:IH} {k:iL->IH->Bool},BS E cf ts ds m h k=true->LEAVE V.P cf ts ds m h (λr h=>k r h=true)
 |[],m,h,k,hb=>by
  have e:BS E cf ts [] m h k=(match (generalizing:=false) m with
   | .returning=>match rH cf.results ts h with
     |some v=>k (.ok v) h
     |none=>false
   | .panicking ch=>k (.fD ch) h
   | .run=>false):=rfl
  rw[e]at hb;split at hb
  .split at hb
   .rename_i v hv;exact .ret v hv hb
   .cases hb
  .rename_i ch;exact .fD ch hb
  .cases hb
 |d::ds,m,h,k,hb=>by
  have e:BS E cf ts (d::ds) m h k=(match (generalizing:=false) m with
   | .run=>false
   |m=>match (generalizing:=false) d with
    |{target:=.collected r,.. }=>match h.get r with
     |some (.iU true)=>BS E cf ts ds m (h.set r (.iU false)) k
     |_=>false
    |{target:=.fn fn ⟨captured⟩,args:=⟨args⟩}=>E.call ⟨fn,args,captured,some m⟩ h λr pm h=>match pm with
     |none=>false
     |some m'=>match r with
      | .ok _=>BS E cf ts ds (Aa m') h k
      | .fD ch=>BS E cf ts ds (Dw m' ch) h k
    |_=>false):=rfl
  rw[e]at hb;split at hb
  .cases hb
  .rename_i hm;have hm':m≠.run:=by intro e;exact hm e
   split at hb
   .rename_i r args;split at hb
    .rename_i hr;exact .coll hm' r hr (Jy hb)
    .cases hb
   .rename_i fn captured args;have hc:=hE.call _ _ _ hb;refine .call hm' _ hc ?_ ?_ ?_
    .intro r pm h' hM e;rw[e]at hM;cases hM
    .intro v m' h' hM;exact Jy hM
    .intro ch m' h' hM;exact Jy hM
   .cases hb
variable (hV:qH V)
include hV
variable{q:aX}{args:ae ah}
def UR{f:eD}{k:BR}(ht:target V.P q=some (f,args))(hb:BU V E f args q.pm h k=true):CALL V.P q h (λr pm h=>k r pm h=true):=by
 unfold BU at hb;split at hb
 .cases hb
 .rename_i cf hcf;obtain⟨fn,hf,hfn⟩:=hV.fn f cf hcf;have hc:=hE.code _ _ _ _ hb;refine .enter f args ht fn hf cf hfn _ hc ?_ ?_
  .intro o a' h' hM e;rw[e]at hM;cases hM
  .intro o a' h' m hM e;rw[e]at hM;exact Jy hE hM
omit hV in
def afq{l:Nat}{k:BR}(hq:q.fn=.yield l)(hpm:q.pm=none)(hb:Nv E l q.args h k=true):CALL V.P q h (λr pm h=>k r pm h=true):=by
 unfold Nv at hb;split at hb
 .rename_i r hr;obtain⟨ha,hb⟩:=Am hb;have ha:=jg ha;rw[vO,vO]at ha;have hc:=hE.code _ _ _ _ hb;refine .round l hq hpm r hr ha _ hc ?_ ?_
  .intro o a' h' hM;split at hM
   .split at hM
    .rename_i r1 hr1;split at hM
     .rename_i hs;exact⟨rfl,r1,hr1,hs⟩
     .cases hM
    .cases hM
   .cases hM
  .intro a' h' r1 hM hr1;simp only[hr1]at hM;split at hM
   .have hc2:=hE.code _ _ _ _ hM;refine OB hc2 _ ?_;intro o a2 h2 hK;unfold Tt at hK;split at hK
    .rename_i hd;split at hK
     .rename_i r2 hr2;refine⟨r2,hr2,hd,?_⟩;cases o<;>exact hK
     .cases hK
    .cases hK
   .cases hM
 .cases hb
omit hE in
def afr{k:BR}{f:Nat}{other:Bool}(ht:target V.P q=some (f,args))(ho:other=true->CALL V.P q h (λr pm h=>k r pm h=true))
 (hb:Nw V f q h k other=true):CALL V.P q h (λr pm h=>k r pm h=true):=by
 unfold Nw at hb;split at hb
 .exact ho hb
 .rename_i g hg;split at hb
  .exact ho hb
  .rename_i hpm;split at hb
   .rename_i v h' hv;refine .ji _ (hV.memo f q h v h' (by rw[hg];exact hv) hpm ⟨args,ht⟩) ?_;rintro r pm h2 ⟨rfl,rfl,rfl⟩;exact hb
   .exact ho hb
def afs(q:aX)(h:IH)(k:BR)(hb:Ny V E q h k=true):CALL V.P q h (λr pm h=>k r pm h=true):=by
 unfold Ny at hb;split at hb
 .rename_i l hq;split at hb
  .rename_i hpm;exact afq hE hq hpm hb
  .cases hb
 .split at hb
  .cases hb
  .rename_i f' args ht;refine afr hV ht (λhb=>?_) hb;split at hb
   .exact UR hE hV ht hb
   .rename_i g hg;split at hb
    .cases hb
    .rename_i hpm;have hent:∀h k,BU V E f' args none h k=true->CALL V.P q h (λr pm h=>k r pm h=true):=by
      intro h k hh;exact UR hE hV ht (by rw[hpm];exact hh)
     split at hb
     .rw[hpm]at hb;exact hent _ _ hb
     .rw[hpm]at hb;exact hent _ _ hb
     .rename_i cs n f hne hgq;obtain⟨h1,hb⟩:=Am hb;obtain⟨h2,hb⟩:=Am hb;simp only[dG,yf]at h1;have hne':cs≠[]:=by
       intro e;subst e;exact hne rfl
      refine .cut cs n f h1.1 hne' ?_ _ (hent _ _ h2) hpm ?_ hb
      .rcases h1.2 with e|e
       .exact .inl (jg e)
       .right;have:=jg e;rw[vO]at this;exact this
      .intro r pm h' hM;unfold Tu at hM;split at hM
       .cases hM
       .split at hM
        .rename_i i o f'' n' c;obtain⟨h3,h4⟩:=Am hM;simp only[dG,yf,BA]at h3;obtain⟨⟨⟨⟨e1,e2⟩,e3⟩,e4⟩,e5⟩:=h3;have e1:=jg e1;have e2:=jg e2;subst e1;subst e2;refine⟨rfl,jg e5,i,o,c,rfl,lg e4,?_,?_⟩
         .intro e;rcases e3 with e3|e3
          .subst e;cases e3
          .exact jg e3
         .split at h4
          .rename_i l hl;rw[Ea (xu 5) _ _ h4]at hl;rw[vO]at hl;rw[hl]
          .cases h4
        .cases hM
omit hV in
def aft(c:cK)(a:aU)(h:IH)(k:BO)(hb:Jb V E c a h k=true):EV V.P c a h (λo a h=>k o a h=true):=by
 cases c with
 |skip=>exact .skip hb
 |ops ds l=>exact .ops (OD hE hb)
 |seq x y=>
  refine .seq _ (hE.code _ _ _ _ hb) ?_ ?_
  .intro a' h' hm;exact hE.code _ _ _ _ hm
  .exact gO
 |cond c x y=>
  simp only[Jb]at hb;split at hb
  .rename_i hc;exact .Oi hc (hE.code _ _ _ _ hb)
  .rename_i hc;exact .Oj hc (hE.code _ _ _ _ hb)
  .cases hb
 |block id c=>exact .block _ (hE.code _ _ _ _ hb) (λo a' h' hm=>hm)
 |loop c=>
  refine .loop _ (hE.code _ _ _ _ hb) ?_ ?_
  .intro a' h' hm;exact hE.code _ _ _ _ hm
  .exact gO
 |scope c=>exact .scope (hE.code _ _ _ _ hb)
 |exit id=>exact .exit hb
 |ret=>exact .ret hb
 |fail=>cases hb
 |rangeFunc f ps assign body=>
  simp only[Jb]at hb;split at hb
  .rename_i fn first captured hf
   split at hb
   .rename_i hro;refine .rangeFunc fn first captured hf _ _ h.next (.inl ⟨hro,rfl,rfl,rfl⟩) _ (hE.call _ _ _ hb) ?_ ?_
    .exact ff
    .intro ch pm h2 hm;exact hm
   .rename_i l0 hro;split at hb
    .rename_i r0 hr0;refine .rangeFunc fn first captured hf _ _ r0.defers (.inr ⟨l0,r0,hro,rfl,rfl,hr0,rfl⟩) _ (hE.call _ _ _ hb) ?_ ?_
     .exact ff
     .intro ch pm h2 hm;exact hm
    .cases hb
  .cases hb
end
def OE{V:Env}(hV:qH V):∀n,UO V (nI V n)
 |0=>⟨(λ_ _ _ _ h=>by cases h),(λ_ _ _ h=>by cases h)⟩
 |n+1=>⟨λc a h k hb=>aft (OE hV n) c a h k hb,λq h k hb=>afs (OE hV n) hV q h k hb⟩
def rT(P:Program)(cut memo)(hm:∀f q h v h',(memo f).bind (λg=>g q h)=some (v,h')->q.pm=none->(∃args,target P q=some (f,args))->CALL P q h (λr pm h2=>r=.ok v/\pm=none/\h2=h')):qH (lX P cut memo) where
 memo:=hm
 fn f cf h:=by
  have e:(lX P cut memo).F f=(match (Dy 100000 P.funcs.toList).get f with
   |some fn=>vJ P fn
   |none=>none):=rfl
  rw[e]at h;split at h
  .rename_i fn hf;refine⟨fn,?_,h⟩;have:=Oy _ _ _ _ hf;rw[yc]at this;exact this
  .cases h
variable {P:Program}
def lk(l:qr)(k:Nat):ah:=
 match l with
 |[]=>dH
 |(j,v)::l=>cond (Nat.beq k j) v (lk l k)
noncomputable def iw:qr->T ah
 |[]=>.leaf
 |(j,v)::l=>(iw l).set j (some v)
def wh:∀(l:qr) (k:Nat),dD (iw l) k=lk l k
 |[],k=>rfl
 |(j,v)::l,k=>by
  have ih:=wh l k;unfold dD at ih⊢;simp only[iw,lk,T.lC];by_cases e:k=j
  .subst e;simp
  .have:Nat.beq k j=false:=by
    cases hb:Nat.beq k j with
    |false=>rfl
    |true=>exact absurd (rq hb) e
   rw[if_neg e,this];exact ih
noncomputable def act(n:Nat)(l:qr)(D:ae Deferred)(pm:aj FrameMode)(ro:aj Nat):aU:=⟨n,iw l,D,pm,ro⟩
def ev(l:qr)(x:ak):ah:=
 match x with
 | .tmp t=>lk l t
 | .const v=>v
 | .global g=>.pointer (some ⟨g,0,none⟩)
 | .func f=>.func (.func f) #[] #[]
section
variable {n:Nat} {l:qr} {D:ae Deferred} {pm:aj FrameMode} {ro:aj Nat}
def nX:(act n l D pm ro).eval=ev l:=by
 funext x
 cases x with
 |tmp t=>exact wh l t
 |_=>rfl
def qI{d:Nat}{v:ah}(h:Nat.blt d n=true):(act n l D pm ro).put (some d) v=act n ((d,v)::l) D pm ro:=by
 simp only[act,aU.put,aU.set,h,cond];rfl
def Jz(t:Nat)(want:Bool):(act n l D pm ro).wants (some (t,want))=match lk l t with
 | .bool b=>some (cond want b (!b))
 | .chan _=>some false
 |_=>none:=by
 unfold aU.wants;simp only[act,wh];cases lk l t<;>rfl
def weaker(a0 a:aU):Prop:=(∀i,dD a0.tmps i=dH\/dD a0.tmps i=dD a.tmps i)/\a0.n=a.n/\a0.defers=a.defers/\a0.pm=a.pm/\a0.ro=a.ro
def sub:qr->qr->Prop
 |[],_=>True
 |(k,v)::l0,l=>lk l k=v/\sub l0 l
def UT:∀{l0 l:qr},sub l0 l->∀i,lk l0 i=dH\/lk l0 i=lk l i
 |[],l,_,i=>.inl rfl
 |(k,v)::l0,l,h,i=>by
  simp only[lk];cases hb:Nat.beq i k with
  |true=>right;rw[rq hb];exact h.1.symm
  |false=>exact UT h.2 i
def OG{l0:qr}(h:sub l0 l):weaker (act n l0 D pm ro) (act n l D pm ro):=
 ⟨λi=>by simp only[act,wh];exact UT h i,rfl,rfl,rfl,rfl⟩
def Ao(P:Program)(y:cK)(K:KO):KO:=λo a h=>match o with
 | .normal=>EV P y a h K
 |o=>K o a h
variable{K:KO}{h:IH}{a:aU}{x y:cK}
def afu(h1:EV P x a h (Ao P y K)):EV P (.seq x y) a h K:=
 .seq _ h1 (λ_ _ hm=>hm) (λo a' h' hm hn=>by
  exact jj)
def yN(id:Nat)(K:KO):KO:=λo a h=>K (inBlock id o) a h
variable{c:cK}
def afv{id:Nat}(h1:EV P c a h (yN id K)):EV P (.block id c) a h K:=.block _ h1 (λ_ _ _ hm=>hm)
def Gw{c:ak}(b:Bool)(hc:ev l c=.bool b)(h1:b=true->EV P x (act n l D pm ro) h K)(h2:b=false->EV P y (act n l D pm ro) h K):EV P (.cond c x y) (act n l D pm ro) h K:=by
 cases b with
 |true=>exact .Oi (by rw[nX];exact hc) (h1 rfl)
 |false=>exact .Oj (by rw[nX];exact hc) (h2 rfl)
def wm(I:Nat->aU->IH->Prop)(m:Nat)(K:KO):KO:=λo a h=>match o with
 | .normal=>∃m' a0,m'<m/\weaker a0 a/\I m' a0 h
 |o=>K o a h
def afw(I:Nat->aU->IH->Prop)(hb:∀m a h,I m a h->EV P c a h (wm I m K)):∀m a h,I m a h->EV P (.loop c) a h K:=by
 intro m;induction m using Nat.strongRecOn with
 |ind m ih=>
  intro a h hI;refine .loop _ (hb m a h hI) ?_ ?_
  .rintro a' h' ⟨m',a0,hlt,hw,hI'⟩;exact .weaken a0 hw.1 hw.2 (ih m' hlt a0 h' hI')
  .intro o a' h' hm hn;exact jj
def UU{a0:aU}(hw:weaker a0 a)(h1:EV P c a0 h K):EV P c a h K:=.weaken a0 hw.1 hw.2 h1
section
variable {ds:ae Tmp} {rest:ae bJ} {h:IH} {K:KO}
variable{d:Nat}{op:aF}
def step{v:ah}{h':IH}(hn:Nat.blt d n=true)(hr:op.run P (ev l) h=some (v,h'))
 (next:aK P ds rest (act n ((d,v)::l) D pm ro) h' K):aK P ds (⟨⟨some d,none,op⟩,[]⟩::rest) (act n l D pm ro) h K:=
 .lZ rfl v h' ta tv tw
def stepG{t:Nat}{want:Bool}(hn:Nat.blt d n=true)(b:Bool)(ht:lk l t=.bool b)
 (h1:b=want->∃v h',op.run P (ev l) h=some (v,h')/\aK P ds rest (act n ((d,v)::l) D pm ro) h' K)
 (h2:b≠want->aK P ds rest (act n ((d,um)::l) D pm ro) h K):aK P ds (⟨⟨some d,some (t,want),op⟩,[]⟩::rest) (act n l D pm ro) h K:=by
 by_cases e:b=want
 .obtain⟨v,h',hr,hnx⟩:=h1 e;refine .lZ ?_ v h' ta tv (by rw[qI hn];exact hnx);show(act n l D pm ro).wants (some (t,want))=some true;rw[Jz,ht,e];cases want<;>rfl
 .refine .skip ?_ (by rw[qI hn];exact h2 e);show(act n l D pm ro).wants (some (t,want))=some false;rw[Jz,ht];cases want<;>cases b<;>first|rfl|exact absurd rfl e
end
end
def xy(cf:gK)(K:KR):KO:=λo a h=>
 match o with
 | .normal| .ret=>∃v,rH cf.results a.tmps h=some v/\UW a/\K (.ok v) a.pm h
 | .panic ch=>UW a/\K (.fD ch) a.pm h
 | .exit _=>False
where UW (a:aU):Prop:=a.defers=[]
def afx{f:eD}{args cap:ae ah}{pm:aj FrameMode}{h:IH}{K:KR}(fn:Func)(hf:P.funcs[f]? =some fn)(cf:gK)(hcf:vJ P fn=some cf)
 (hb:EV P cf.body (BP cf.ntmps (args++cap) pm) h (xy cf K)):CALL P ⟨.func f,args,cap,pm⟩ h K:=by
 refine .enter f (args++cap) (by simp only[target,jc]) fn hf cf hcf _ hb ?_ ?_
 .intro o a h hm e;cases o with
  |exit _=>exact hm
  |_=>cases e
 .intro o a h' m hm he;cases o with
  |exit _=>cases hm
  |normal=>
   exact lz
  |ret=>
   exact lz
  |panic ch=>
   obtain⟨h2,h3⟩:=hm;cases he;have h2:a.defers=[]:=h2;rw[h2];exact .fD ch h3
end Go.Ideal
namespace Go.Ideal
noncomputable def afy(k:Int)(l:ae Int):ae Int:=
 List.rec (motive:=λ_=>ae Int) [k] (λx l ih=>cond (leZ k x) (k::x::l) (x::ih)) l
noncomputable def afz(l:ae MapEntry):aj (ae Int):=
 List.rec (motive:=λ_=>aj (ae Int)) (some []) (λe _ ih=>match e.key,ih with
  | .int .i64 k,some r=>some (afy k r)
  |_,_=>none) l
noncomputable def xz(s f:Nat):Nat->aj (aX->IH->aj (ae ah×Nat×Nat)):=λg=>
 cond (Nat.beq g s) (some λq h=>match q.args with
  |[.func (.func f') ⟨[]⟩ ⟨[.pointer (some ⟨b,o,none⟩)]⟩]=>cond (Nat.beq f' f) (match h.nR b o 1 with
   |some [.map (some m)]=>match h.get m with
    |some (.map es _)=>match afz es with
     |some l=>some (lq (λk=>.int .i64 k) l,iI l,1)
     |none=>none
    |_=>none
   |_=>none) none
  |_=>none) none
noncomputable def JA(a b:bG):Bool:=
 match a,b with
 | .cells x,.cells y=>nH 5 (.agg ⟨x⟩) (.agg ⟨y⟩)
 |_,_=>false
def UX{a b:bG}(h:JA a b=true):a=b:=by
 unfold JA at h;split at h
 .have:=xu _ _ _ h;injection this with this;injection this with this;rw[this]
 .cases h
noncomputable def Eb(l:ae (Nat×bG))(h:IH):Bool:=
 zW (λp=>match h.get p.1 with
  |some o=>JA p.2 o
  |none=>false) l
noncomputable def heapT:ae (Nat×bG)->T bG
 |[]=>.leaf
 |(i,o)::l=>(heapT l).set i (some o)
def OH:∀(l:ae (Nat×bG)) (i:Nat),(heapT l).get i=none\/∃o,(i,o)∈l/\(heapT l).get i=some o
 |[],i=>.inl rfl
 |(j,o)::l,i=>by
  simp only[heapT,T.lC];by_cases e:i=j
  .subst e;right;exact⟨o,dP ..,qe⟩
  .rw[if_neg e];rcases OH l i with h|⟨o',h1,h2⟩
   .exact .inl h
   .exact .inr ⟨o',dO _ h1,h2⟩
variable{l:ae (Nat×bG)}{h:IH}
def UY(hh:Eb l h=true):∀i o,(i,o)∈l->h.get i=some o:=by
 intro i o hm;unfold Eb at hh;rw[DF,iE]at hh;have:=hh _ hm;dsimp only at this;split at this
 .rename_i o' he;rw[he,UX this]
 .cases this
noncomputable def known(l:ae (Nat×bG))(n:Nat)(fn:Nat)(args:ae ah)(v:ah):aX->IH->aj (ah×IH):=λq h=>
 match q with
 |⟨.func f,as,[],none⟩=>cond (Nat.beq f fn&&nH 5 (.tuple ⟨args⟩) (.tuple ⟨as⟩)&&Nat.ble n h.next&&Eb l h) (some (v,h)) none
 |_=>none
variable{n:Nat}{v:ah}
def OI{P:Program}{fn:Nat}{args:ae ah}(hv:bR v=true)(hb:sS n args=true)(hl:l.all (λp=>Nat.blt p.1 n&&FM n p.2)=true)
 (hgl:P.globals.size<=n) (hc:CALL P ⟨.func fn,args,[],none⟩ ⟨heapT l,n,n⟩ (λr pm h'=>pm=none/\r=.ok v/\h'.low=n))
 {q:aX} {h:IH} {v':ah} {h':IH} (hk:known l n fn args v q h=some (v',h')):CALL P q h (λr pm h2=>r=.ok v'/\pm=none/\h2=h'):=by
 unfold known at hk;split at hk
 .rename_i f as;cases hcd:(Nat.beq f fn&&nH 5 (.tuple ⟨args⟩) (.tuple ⟨as⟩)&&Nat.ble n h.next&&Eb l h)with
  |false=>rw[hcd]at hk;cases hk
  |true=>
   rw[hcd]at hk;simp only[cond,aI,cB]at hk;obtain⟨rfl,rfl⟩:=hk;simp only[dG]at hcd;obtain⟨⟨⟨h1,h2⟩,h3⟩,h4⟩:=hcd;have h1:=jg h1;subst h1;have h2:=xu _ _ _ h2;injection h2 with h2;injection h2 with h2;subst h2;refine .memo ⟨heapT l,n,n⟩ v hv rfl ?_ (lg h3) hgl ?_ _ hc (λr pm h' h=>h) ⟨rfl,rfl,rfl⟩
   .show oF n (.func (.func f) ⟨args⟩ ⟨[]⟩)=true;simp[oF,sS,hb]
   .intro i o ho;rcases OH l i with e|⟨o',e1,e2⟩
    .exact absurd (ho.symm.trans e) qe
    .have:o'=o:=by have:=e2.symm.trans ho;simpa using this
     subst this;rw[iE]at hl;have:=hl _ e1;simp only[dG]at this;exact⟨D9 this.1,UY h4 i o' e1,this.2⟩
 .cases hk
def oK{V:Env}(hV:qH V){n:Nat}{q:aX}{h:IH}{K:BR}(hb:(nI V n).call q h K=true):CALL V.P q h (λr pm h=>K r pm h=true):=
 (OE hV n).call q h K hb
noncomputable def gives(v:ah)(n:Nat):BR:=λr pm h=>match pm with
 |some _=>false
 |none=>match r with
  | .ok v'=>nH 5 v v'&&Nat.beq h.low n
  | .fD _=>false
def JB{r:iL}{pm:aj FrameMode}(hg:gives v n r pm h=true):pm=none/\r=.ok v/\h.low=n:=by
 unfold gives at hg;split at hg
 .cases hg
 .split at hg
  .simp only[dG]at hg;exact⟨rfl,by rw[xu _ _ _ hg.1],jg hg.2⟩
  .cases hg
