/- Part. -/
import Derived.Test.YtoilpafpgndilaaGreatIdealEF
set_option linter.all false
namespace Go.Ideal
def kR{a b:Nat}(h:Nat.beq a b=true):a=b:=qo h
def uP{α:Type}(l:kI α)(b:Bool):kI α:=
 match l with
 |[]=>[]
 |y::l=>match b with
  |true=>y::uP l false
  |false=>uP l true
def Rw{α:Type}(l:kI α):∀b,(List.rec (motive:=λ_=>Bool->kI α) (λ_=>[]) (λy _ r b=>Bool.rec (motive:=λ_=>kI α) (r true) (y::r false) b) l:Bool->kI α) b=uP l b:=by
 induction l with
 |nil=>intro b;rfl
 |cons y l ih=>intro b;cases b
               .simp only[uP];exact ih true
               .simp only[uP];exact congrArg (y::·) (ih false)
def G8{α:Type}:∀(l:kI α) (k:Nat),(uP l true)[k]? =l[2*k]?/\(uP l false)[k]? =l[2*k+1]?
 |[],k=>by simp[uP]
 |y::l,k=>by
  simp only[uP];refine⟨?_,?_⟩
  .cases k with
   |zero=>rfl
   |succ k=>rw[qZ,(G8 l k).2,show 2*(k+1)=(2*k+1)+1 by omega,qZ]
  .rw[(G8 l k).1,qZ]
def LW{α:Type}:∀(f:Nat) (l:kI α) (i:Nat) (x:α),(BU f l).get i=some x->l[i]? =some x
 |0,l,i,x,h=>by cases h
 |f+1,[],i,x,h=>by cases h
 |f+1,y::l,i,x,h=>by
  have e:BU (f+1) (y::l)=.node (some y) (BU f (uP l true)) (BU f (uP l false)):=by
   rw[<- Rw l true,<- Rw l false];rfl
  rw[e]at h;cases i with
  |zero=>exact h
  |succ m=>
   rw[T.vP]at h;rw[qZ];split at h
   .rename_i hm;have:=LW f _ _ _ h;rw[(G8 l _).1]at this
    rwa [show 2*(m/2)=m by omega]at this
   .rename_i hm;have:=LW f _ _ _ h;rw[(G8 l _).2]at this
    rwa [show 2*(m/2)+1=m by omega]at this
def Cq{p:vI->vI->Bool}(hp:∀x y,p x y=true->x=y):∀(a b:kI vI),
 (List.rec (motive:=λ_=>kI vI->Bool) (λb=>match b with|[]=>true|_=>false) (λx _ r b=>match b with|y::b=>cond (p x y) (r b) false|[]=>false) a:kI vI->Bool) b=true->a=b
 |[],[],_=>rfl
 |[],_::_,h=>by cases h
 |x::a,[],h=>by cases h
 |x::a,y::b,h=>by
  dsimp only at h;cases hc:p x y with
  |false=>rw[hc]at h;cases h
  |true=>rw[hc]at h;rw[hp x y hc,Cq hp a b h]
def yS:∀(f:Nat) (v u:vI),ou f v u=true->v=u
 |0,v,u,h=>by cases h
 |f+1,v,u,h=>by
  have ih:=yS f;change (match (generalizing:=false) v,u with
   | .bool a,.bool b=>a==b
   | .int .i64 a,.int .i64 b=>BN a b
   | .int j a,.int k b=>j==k&&a==b
   | .string a,.string b=>a.data.toList==b.data.toList
   | .pointer none,.pointer none=>true
   | .pointer (some ⟨i,o,none⟩),.pointer (some ⟨j,p,none⟩)=>Nat.beq i j&&Nat.beq o p
   | .slice none n c,.slice none m d=>Nat.beq n m&&Nat.beq c d
   | .slice (some ⟨i,o,some f⟩) n c,.slice (some ⟨j,p,some g⟩) m d=>Nat.beq i j&&Nat.beq o p&&Nat.beq f g&&Nat.beq n m&&Nat.beq c d
   | .map none,.map none=>true
   | .map (some i),.map (some j)=>Nat.beq i j
   | .nilIface,.nilIface=>true
   | .nilFunc,.nilFunc=>true
   | .iface t v,.iface s u=>Nat.beq t s&&ou f v u
   | .agg ⟨a⟩,.agg ⟨b⟩=>(List.rec (motive:=λ_=>kI vI->Bool) (λb=>match b with|[]=>true|_=>false) (λx _ r b=>match b with|y::b=>cond (ou f x y) (r b) false|[]=>false) a:kI vI->Bool) b
   | .tuple ⟨a⟩,.tuple ⟨b⟩=>(List.rec (motive:=λ_=>kI vI->Bool) (λb=>match b with|[]=>true|_=>false) (λx _ r b=>match b with|y::b=>cond (ou f x y) (r b) false|[]=>false) a:kI vI->Bool) b
   | .func f' ⟨a⟩ ⟨c⟩,.func g ⟨b⟩ ⟨d⟩=>f'==g&&
      (List.rec (motive:=λ_=>kI vI->Bool) (λb=>match b with|[]=>true|_=>false) (λx _ r b=>match b with|y::b=>cond (ou f x y) (r b) false|[]=>false) a:kI vI->Bool) b&&
      (List.rec (motive:=λ_=>kI vI->Bool) (λb=>match b with|[]=>true|_=>false) (λx _ r b=>match b with|y::b=>cond (ou f x y) (r b) false|[]=>false) c:kI vI->Bool) d
   |_,_=>false)=true at h
  split at h
  .rw[eq_of_beq h]
  .rw[Eb]at h;rw[eq_of_beq h]
  .simp only[afD]at h;rw[eq_of_beq h.1,eq_of_beq h.2]
  .rename_i a b;have:=eq_of_beq h;cases a with|mk a=>cases b with|mk b=>simp only at this;congr 2;exact Array.toList_inj.mp this
  .rfl
  .simp only[afD]at h;rw[kR h.1,kR h.2]
  .simp only[afD]at h;rw[kR h.1,kR h.2]
  .simp only[afD]at h;rw[kR h.1.1.1.1,kR h.1.1.1.2,kR h.1.1.2,kR h.1.2,kR h.2]
  .rfl
  .rw[kR h]
  .rfl
  .rfl
  .simp only[afD]at h;rw[kR h.1,ih _ _ h.2]
  .rw[Cq ih _ _ h]
  .rw[Cq ih _ _ h]
  .simp only[afD]at h;rw[eq_of_beq h.1.1,Cq ih _ _ h.1.2,Cq ih _ _ h.2]
  .cases h
def LX{P:Program}{a:aV}{h:IH}:∀{re:kI iq},DX P re a h=true->
 ∀r∈re,a.wants r.guard≠some false->∃u h2,r.op.run P a.eval h=some (u,h2)/\∀d,r.dst=some d->dL a.tmps d=u
 |[],_,r,hr,_=>by cases hr
 |r0::re,hs,r,hr,hw=>by
  have e:DX P (r0::re) a h=cond (match a.wants r0.guard with
   |some false=>true
   |_=>match r0.op.run P a.eval h with
    |some (u,_)=>match r0.dst with
     |some d=>ou 50 (dL a.tmps d) u
     |none=>true
    |none=>false) (DX P re a h) false:=rfl
  rw[e]at hs;cases hc:(match a.wants r0.guard with
   |some false=>true
   |_=>match r0.op.run P a.eval h with
    |some (u,_)=>match r0.dst with
     |some d=>ou 50 (dL a.tmps d) u
     |none=>true
    |none=>false)with
  |false=>rw[hc]at hs;cases hs
  |true=>
   rw[hc]at hs;cases hr with
   |tail _ hr=>exact LX hs r hr hw
   |head=>
    split at hc
    .rename_i hg;exact absurd hg hw
    .split at hc
     .rename_i u h2 hrun;refine⟨u,h2,hrun,λd hd=>?_⟩;rw[hd]at hc;exact yS _ _ _ hc
     .cases hc
def LY{P:Program}{c:dI}{a:aV}{h:IH}{K:KO}(e:EV P c a h K):∀K':KO,(∀o a h,K o a h->K' o a h)->EV P c a h K':=by
 refine EV.rec (P:=P) (motive_1:=λc a h K _=>∀K':KO,(∀o a h,K o a h->K' o a h)->EV P c a h K')
  (motive_2:=λds l a h K _=>∀K':KO,(∀o a h,K o a h->K' o a h)->aH P ds l a h K')
  (motive_3:=λ_ _ _ _ _ _ _=>True) (motive_4:=λ_ _ _ _=>True)
  ?_ ?_ ?_ ?_ ?_ ?_ ?_ ?_ ?_ ?_ ?_ ?_ ?_ ?_ ?_ ?_ ?_ ?_ ?_ ?_ ?_ ?_ ?_ ?_ ?_ ?_ ?_ ?_ ?_ ?_ ?_ ?_ e
 .intro a h K hk K' hK;exact .skip (hK _ _ _ hk)
 .intro ds l a h K ho i K' hK;exact .ops (i K' hK)
 .intro x y a h K M h1 h2 h3 i1 i2 K' hK;exact .seq M h1 (λa' h' hm=>i2 a' h' hm K' hK) (λo a' h' hm hn=>hK _ _ _ (h3 o a' h' hm hn))
 .intro c x y a h K hc h1 i1 K' hK;exact .LA hc (i1 K' hK)
 .intro c x y a h K hc h1 i1 K' hK;exact .LB hc (i1 K' hK)
 .intro id c a h K M h1 h2 i1 K' hK;exact .block M h1 (λo a' h' hm=>hK _ _ _ (h2 o a' h' hm))
 .intro c a h K M h1 h2 h3 i1 i2 K' hK;exact .loop M h1 (λa' h' hm=>i2 a' h' hm K' hK) (λo a' h' hm hn=>hK _ _ _ (h3 o a' h' hm hn))
 .intro c a h K h1 i1 K' hK;exact .scope (i1 K' hK)
 .intro id a h K hk K' hK;exact .exit (hK _ _ _ hk)
 .intro a h K hk K' hK;exact .ret (hK _ _ _ hk)
 .intro f ps assign body a h K fn first captured hf a1 h1 r hr M hc hok jM i1 K' hK
  exact .rangeFunc fn first captured hf a1 h1 r hr M hc (λv pm h2 hm=>by
   obtain⟨lp,q1,q2,q3⟩:=hok v pm h2 hm;exact⟨lp,q1,q2,hK _ _ _ q3⟩) (λch pm h2 hm=>hK _ _ _ (jM ch pm h2 hm))
 .intro c a h K a0 hw hn h1 i1 K' hK;exact .weaken a0 hw hn (i1 K' hK)
 .intro ds a h K hk K' hK;exact .nil (hK _ _ _ hk)
 .intro ds s l a h K hw h1 i1 K' hK;exact .skip hw (i1 K' hK)
 .intro ds s l a h K hw v h' hr hs h1 i1 K' hK;exact .lu hw v h' hr hs (i1 K' hK)
 .intro ds s l a h K hw q hq M hc hs hok jM i1 i2 K' hK;exact .call hw q hq M hc hs (λv pm h' hm=>i2 v pm h' hm K' hK) (λch pm h' hm=>hK _ _ _ (jM ch pm h' hm))
 .intro ds s l a h K hw ho hre hm hro h1 i1 K' hK;exact .Q5 hw ho hre hm hro (i1 K' hK)
 .intro ds s l a h K hw ho hre m hm hro h1 i1 K' hK;exact .recoverD hw ho hre m hm hro (i1 K' hK)
 .intro ds s l a h K hw x ho t v hx hk K' hK;exact .panic hw x ho t v hx (hK _ _ _ hk)
 .intro ds s l a h K hw f args ho hre hro fn first captured hf h1 i1 K' hK;exact .defer hw f args ho hre hro fn first captured hf (i1 K' hK)
 .intro ds s l a h K hw x ho hre alts ha h1 i1 K' hK;exact .next hw x ho hre alts ha (λvh hv=>i1 vh hv K' hK)
 all_goals intros;trivial
structure Rx(V:Env)(E:Ev):Prop where
 code:∀c a h K,E.code c a h K=true->EV V.P c a h (λo a h=>K o a h=true)
 call:∀q h K,E.call q h K=true->CALL V.P q h (λr pm h=>K r pm h=true)
structure Au(V:Env):Prop where
 memo:∀f q h v h',(V.memo f).bind (λg=>g q h)=some (v,h')->q.pm=none->(∃args,target V.P q=some (f,args))->CALL V.P q h (λr pm h2=>r=.ok v/\pm=none/\h2=h')
 fn:∀f cf,V.F f=some cf->∃fn,V.P.funcs[f]? =some fn/\uB V.P fn=some cf
def yT{a b:Bool}(h:cond a b false=true):a=true/\b=true:=by
 cases a with
 |false=>cases h
 |true=>exact⟨rfl,h⟩
section
variable {V:Env} {E:Ev} (hE:Rx V E)
include hE
variable{h:IH}{s:bV}{ds:kI Tmp}{l:kI bV}{a:aV}{next:aV->IH->Bool}{k:BO}
def Ry(hw:a.wants s.s.guard=some true)
 (hn:∀a h,next a h=true->aH V.P ds l a h (λo a h=>k o a h=true)) (hb:Gz V.P E ds s a h next k=true):aH V.P ds (s::l) a h (λo a h=>k o a h=true):=by
 unfold Gz at hb;cases hq:w9 s.s.op a.eval with
 |none=>rw[hq]at hb;cases hb
 |some q=>
  rw[hq]at hb;have hc:=hE.call _ _ _ hb;refine .call hw q hq _ hc ?_ ?_ ?_
  .intro v pm h' hm;exact LX (yT hm).1
  .intro v pm h' hm;exact hn _ _ (yT hm).2
  .intro ch pm h' hm;exact hm
omit hE in
def LZ{b:Bool}(h:DY s b=true):s.re=[]/\b=true:=by
 unfold DY at h;split at h
 .rename_i e;exact⟨e,h⟩
 .cases h
omit hE in
def aaV(hw:a.wants s.s.guard=some true)
 (hn:∀a h,next a h=true->aH V.P ds l a h (λo a h=>k o a h=true)) (hb:KA V.P s a h next=true):aH V.P ds (s::l) a h (λo a h=>k o a h=true):=by
 unfold KA at hb;split at hb
 .rename_i v h' hr;split at hb
  .rename_i e;exact .lu hw v h' hr (by rw[e];intro r hr;cases hr) (hn _ _ hb)
  .exact .lu hw v h' hr (LX (yT hb).1) (hn _ _ (yT hb).2)
 .cases hb
def aaW(hw:a.wants s.s.guard=some true)
 (hn:∀a h,next a h=true->aH V.P ds l a h (λo a h=>k o a h=true)) (hb:GA V.P E ds s a h next k=true):aH V.P ds (s::l) a h (λo a h=>k o a h=true):=by
 unfold GA at hb;split at hb
 .exact Ry hE hw hn hb
 .exact Ry hE hw hn hb
 .rename_i ho;obtain⟨hre,hb⟩:=LZ hb;split at hb
  .cases hb
  .rename_i hro;split at hb
   .rename_i hm;exact .Q5 hw ho hre hm hro (hn _ _ hb)
   .rename_i m hm;exact .recoverD hw ho hre m hm hro (hn _ _ hb)
 .rename_i x ho;split at hb
  .rename_i t v hx;exact .panic hw x ho t v hx hb
  .cases hb
 .rename_i f args ho;obtain⟨hre,hb⟩:=LZ hb;split at hb
  .cases hb
  .rename_i hro;split at hb
   .rename_i fn first captured hf
    exact .defer hw f args ho hre hro fn first captured hf (hn _ _ hb)
   .cases hb
 .rename_i x ho;obtain⟨hre,hb⟩:=LZ hb;split at hb
  .rename_i alts ha;refine .next hw x ho hre alts ha λvh hv=>?_
   rw[Qk,lK]at hb;exact hn _ _ (hb vh hv)
  .cases hb
 .exact aaV hw hn hb
def L6{ds:kI Tmp}{k:BO}:∀{l:kI bV} {a:aV} {h:IH},DZ V.P E ds l a h k=true->aH V.P ds l a h (λo a h=>k o a h=true)
 |[],a,h,hb=>.nil hb
 |s::l,a,h,hb=>by
  have e:DZ V.P E ds (s::l) a h k=(match a.wants s.s.guard with
   |some true=>GA V.P E ds s a h (λa h=>DZ V.P E ds l a h k) k
   |some false=>DZ V.P E ds l (a.put s.s.dst sS) h k
   |none=>false):=rfl
  rw[e]at hb;split at hb
  .rename_i hw;exact aaW hE hw (λa h h1=>L6 h1) hb
  .rename_i hw;exact .skip hw (L6 hb)
  .cases hb
def G9{cf:gV}{ts:T vI}:∀{ds:kI Deferred} {m:FrameMode} {h:IH} {k:iU->IH->Bool},Ad E cf ts ds m h k=true->LEAVE V.P cf ts ds m h (λr h=>k r h=true)
 |[],m,h,k,hb=>by
  have e:Ad E cf ts [] m h k=(match (generalizing:=false) m with
   | .returning=>match qB cf.results ts h with
     |some v=>k (.ok v) h
     |none=>false
   | .panicking ch=>k (.fT ch) h
   | .run=>false):=rfl
  rw[e]at hb;split at hb
  .split at hb
   .rename_i v hv;exact .ret v hv hb
   .cases hb
  .rename_i ch;exact .fT ch hb
  .cases hb
 |d::ds,m,h,k,hb=>by
  have e:Ad E cf ts (d::ds) m h k=(match (generalizing:=false) m with
   | .run=>false
   |m=>match (generalizing:=false) d with
    |{target:=.collected r,.. }=>match h.get r with
     |some (.aid true)=>Ad E cf ts ds m (h.set r (.aid false)) k
     |_=>false
    |{target:=.fn fn ⟨captured⟩,args:=⟨args⟩}=>E.call ⟨fn,args,captured,some m⟩ h λr pm h=>match pm with
     |none=>false
     |some m'=>match r with
      | .ok _=>Ad E cf ts ds (yJ m') h k
      | .fT ch=>Ad E cf ts ds (BQ m' ch) h k
    |_=>false):=rfl
  rw[e]at hb;split at hb
  .cases hb
  .rename_i hm;have hm':m≠.run:=by intro e;exact hm e
   split at hb
   .rename_i r args;split at hb
    .rename_i hr;exact .coll hm' r hr (G9 hb)
    .cases hb
   .rename_i fn captured args;have hc:=hE.call _ _ _ hb;refine .call hm' _ hc ?_ ?_ ?_
    .intro r pm h' hM e;rw[e]at hM;cases hM
    .intro v m' h' hM;exact G9 hM
    .intro ch m' h' hM;exact G9 hM
   .cases hb
variable (hV:Au V)
include hV
variable{q:gM}{args:kI vI}
def Rz{f:agR}{k:BR}(ht:target V.P q=some (f,args))(hb:Ae V E f args q.pm h k=true):CALL V.P q h (λr pm h=>k r pm h=true):=by
 unfold Ae at hb;split at hb
 .cases hb
 .rename_i cf hcf;obtain⟨fn,hf,hfn⟩:=hV.fn f cf hcf;have hc:=hE.code _ _ _ _ hb;refine .enter f args ht fn hf cf hfn _ hc ?_ ?_
  .intro o a' h' hM e;rw[e]at hM;cases hM
  .intro o a' h' m hM e;rw[e]at hM;exact G9 hE hM
omit hV in
def aaX{l:Nat}{k:BR}(hq:q.fn=.yield l)(hpm:q.pm=none)(hb:KC E l q.args h k=true):CALL V.P q h (λr pm h=>k r pm h=true):=by
 unfold KC at hb;split at hb
 .rename_i r hr;obtain⟨ha,hb⟩:=yT hb;have ha:=kR ha;rw[xe,xe]at ha;have hc:=hE.code _ _ _ _ hb;refine .round l hq hpm r hr ha _ hc ?_ ?_
  .intro o a' h' hM;split at hM
   .split at hM
    .rename_i r1 hr1;split at hM
     .rename_i hs;exact⟨rfl,r1,hr1,hs⟩
     .cases hM
    .cases hM
   .cases hM
  .intro a' h' r1 hM hr1;simp only[hr1]at hM;split at hM
   .have hc2:=hE.code _ _ _ _ hM;refine LY hc2 _ ?_;intro o a2 h2 hK;unfold Qi at hK;split at hK
    .rename_i hd;split at hK
     .rename_i r2 hr2;refine⟨r2,hr2,hd,?_⟩;cases o<;>exact hK
     .cases hK
    .cases hK
   .cases hM
 .cases hb
omit hE in
def aaY{k:BR}{f:Nat}{other:Bool}(ht:target V.P q=some (f,args))(ho:other=true->CALL V.P q h (λr pm h=>k r pm h=true))
 (hb:KD V f q h k other=true):CALL V.P q h (λr pm h=>k r pm h=true):=by
 unfold KD at hb;split at hb
 .exact ho hb
 .rename_i g hg;split at hb
  .exact ho hb
  .rename_i hpm;split at hb
   .rename_i v h' hv;refine .vT _ (hV.memo f q h v h' (by rw[hg];exact hv) hpm ⟨args,ht⟩) ?_;rintro r pm h2 ⟨rfl,rfl,rfl⟩;exact hb
   .exact ho hb
def aaZ(q:gM)(h:IH)(k:BR)(hb:KE V E q h k=true):CALL V.P q h (λr pm h=>k r pm h=true):=by
 unfold KE at hb;split at hb
 .rename_i l hq;split at hb
  .rename_i hpm;exact aaX hE hq hpm hb
  .cases hb
 .split at hb
  .cases hb
  .rename_i f' args ht;refine aaY hV ht (λhb=>?_) hb;split at hb
   .exact Rz hE hV ht hb
   .rename_i g hg;split at hb
    .cases hb
    .rename_i hpm;have hent:∀h k,Ae V E f' args none h k=true->CALL V.P q h (λr pm h=>k r pm h=true):=by
      intro h k hh;exact Rz hE hV ht (by rw[hpm];exact hh)
     split at hb
     .rw[hpm]at hb;exact hent _ _ hb
     .rw[hpm]at hb;exact hent _ _ hb
     .rename_i cs n f hne hgq;obtain⟨h1,hb⟩:=yT hb;obtain⟨h2,hb⟩:=yT hb;simp only[afD,vG]at h1;have hne':cs≠[]:=by
       intro e;subst e;exact hne rfl
      refine .cut cs n f h1.1 hne' ?_ _ (hent _ _ h2) hpm ?_ hb
      .rcases h1.2 with e|e
       .exact .inl (kR e)
       .right;have:=kR e;rw[xe]at this;exact this
      .intro r pm h' hM;unfold Qj at hM;split at hM
       .cases hM
       .split at hM
        .rename_i i o f'' n' c;obtain⟨h3,h4⟩:=yT hM;simp only[afD,vG,Dy]at h3;obtain⟨⟨⟨⟨e1,e2⟩,e3⟩,e4⟩,e5⟩:=h3;have e1:=kR e1;have e2:=kR e2;subst e1;subst e2;refine⟨rfl,kR e5,i,o,c,rfl,mK e4,?_,?_⟩
         .intro e;rcases e3 with e3|e3
          .subst e;cases e3
          .exact kR e3
         .split at h4
          .rename_i l hl;rw[Cq (yS 5) _ _ h4]at hl;rw[xe]at hl;rw[hl]
          .cases h4
        .cases hM
omit hV in
def aa0(c:dI)(a:aV)(h:IH)(k:BO)(hb:GD V E c a h k=true):EV V.P c a h (λo a h=>k o a h=true):=by
 cases c with
 |skip=>exact .skip hb
 |ops ds l=>exact .ops (L6 hE hb)
 |seq x y=>
  refine .seq _ (hE.code _ _ _ _ hb) ?_ ?_
  .intro a' h' hm;exact hE.code _ _ _ _ hm
  .exact oT
 |cond c x y=>
  simp only[GD]at hb;split at hb
  .rename_i hc;exact .LA hc (hE.code _ _ _ _ hb)
  .rename_i hc;exact .LB hc (hE.code _ _ _ _ hb)
  .cases hb
 |block id c=>exact .block _ (hE.code _ _ _ _ hb) (λo a' h' hm=>hm)
 |loop c=>
  refine .loop _ (hE.code _ _ _ _ hb) ?_ ?_
  .intro a' h' hm;exact hE.code _ _ _ _ hm
  .exact oT
 |scope c=>exact .scope (hE.code _ _ _ _ hb)
 |exit id=>exact .exit hb
 |ret=>exact .ret hb
 |fail=>cases hb
 |rangeFunc f ps assign body=>
  simp only[GD]at hb;split at hb
  .rename_i fn first captured hf
   split at hb
   .rename_i hro;refine .rangeFunc fn first captured hf _ _ h.next (.inl ⟨hro,rfl,rfl,rfl⟩) _ (hE.call _ _ _ hb) ?_ ?_
    .exact mN
    .intro ch pm h2 hm;exact hm
   .rename_i l0 hro;split at hb
    .rename_i r0 hr0;refine .rangeFunc fn first captured hf _ _ r0.defers (.inr ⟨l0,r0,hro,rfl,rfl,hr0,rfl⟩) _ (hE.call _ _ _ hb) ?_ ?_
     .exact mN
     .intro ch pm h2 hm;exact hm
    .cases hb
  .cases hb
end
def L8{V:Env}(hV:Au V):∀n,Rx V (BV V n)
 |0=>⟨(λ_ _ _ _ h=>by cases h),(λ_ _ _ h=>by cases h)⟩
 |n+1=>⟨λc a h k hb=>aa0 (L8 hV n) c a h k hb,λq h k hb=>aaZ (L8 hV n) hV q h k hb⟩
def Cr(P:Program)(cut memo)(hm:∀f q h v h',(memo f).bind (λg=>g q h)=some (v,h')->q.pm=none->(∃args,target P q=some (f,args))->CALL P q h (λr pm h2=>r=.ok v/\pm=none/\h2=h')):Au (pX P cut memo) where
 memo:=hm
 fn f cf h:=by
  have e:(pX P cut memo).F f=(match (BU 100000 P.funcs.toList).get f with
   |some fn=>uB P fn
   |none=>none):=rfl
  rw[e]at h;split at h
  .rename_i fn hf;refine⟨fn,?_,h⟩;have:=LW _ _ _ _ hf;rw[zN]at this;exact this
  .cases h
variable {P:Program}
def lk(l:qr)(k:Nat):vI:=
 match l with
 |[]=>dU
 |(j,v)::l=>cond (Nat.beq k j) v (lk l k)
noncomputable def ahI:qr->T vI
 |[]=>.leaf
 |(j,v)::l=>(ahI l).set j (some v)
def uQ:∀(l:qr) (k:Nat),dL (ahI l) k=lk l k
 |[],k=>rfl
 |(j,v)::l,k=>by
  have ih:=uQ l k;unfold dL at ih⊢;simp only[ahI,lk,T.nH];by_cases e:k=j
  .subst e;simp
  .have:Nat.beq k j=false:=by
    cases hb:Nat.beq k j with
    |false=>rfl
    |true=>exact absurd (qo hb) e
   rw[if_neg e,this];exact ih
noncomputable def act(n:Nat)(l:qr)(D:kI Deferred)(pm:x8 FrameMode)(ro:x8 Nat):aV:=⟨n,ahI l,D,pm,ro⟩
def ev(l:qr)(x:aaB):vI:=
 match x with
 | .tmp t=>lk l t
 | .const v=>v
 | .global g=>.pointer (some ⟨g,0,none⟩)
 | .func f=>.func (.func f) #[] #[]
section
variable {n:Nat} {l:qr} {D:kI Deferred} {pm:x8 FrameMode} {ro:x8 Nat}
def nI:(act n l D pm ro).eval=ev l:=by
 funext x
 cases x with
 |tmp t=>exact uQ l t
 |_=>rfl
def qf{d:Nat}{v:vI}(h:Nat.blt d n=true):(act n l D pm ro).put (some d) v=act n ((d,v)::l) D pm ro:=by
 simp only[act,aV.put,aV.set,h,cond];rfl
def He(t:Nat)(want:Bool):(act n l D pm ro).wants (some (t,want))=match lk l t with
 | .bool b=>some (cond want b (!b))
 | .chan _=>some false
 |_=>none:=by
 unfold aV.wants;simp only[act,uQ];cases lk l t<;>rfl
def weaker(a0 a:aV):Prop:=(∀i,dL a0.tmps i=dU\/dL a0.tmps i=dL a.tmps i)/\a0.n=a.n/\a0.defers=a.defers/\a0.pm=a.pm/\a0.ro=a.ro
def sub:qr->qr->Prop
 |[],_=>True
 |(k,v)::l0,l=>lk l k=v/\sub l0 l
def RA:∀{l0 l:qr},sub l0 l->∀i,lk l0 i=dU\/lk l0 i=lk l i
 |[],l,_,i=>.inl rfl
 |(k,v)::l0,l,h,i=>by
  simp only[lk];cases hb:Nat.beq i k with
  |true=>right;rw[qo hb];exact h.1.symm
  |false=>exact RA h.2 i
def L9{l0:qr}(h:sub l0 l):weaker (act n l0 D pm ro) (act n l D pm ro):=
 ⟨λi=>by simp only[act,uQ];exact RA h i,rfl,rfl,rfl,rfl⟩
def yU(P:Program)(y:dI)(K:KO):KO:=λo a h=>match o with
 | .normal=>EV P y a h K
 |o=>K o a h
variable{K:KO}{h:IH}{a:aV}{x y:dI}
def aa1(h1:EV P x a h (yU P y K)):EV P (.seq x y) a h K:=
 .seq _ h1 (λ_ _ hm=>hm) (λo a' h' hm hn=>by
  exact pT)
def xD(id:Nat)(K:KO):KO:=λo a h=>K (inBlock id o) a h
variable{c:dI}
def aa2{id:Nat}(h1:EV P c a h (xD id K)):EV P (.block id c) a h K:=.block _ h1 (λ_ _ _ hm=>hm)
def ED{c:aaB}(b:Bool)(hc:ev l c=.bool b)(h1:b=true->EV P x (act n l D pm ro) h K)(h2:b=false->EV P y (act n l D pm ro) h K):EV P (.cond c x y) (act n l D pm ro) h K:=by
 cases b with
 |true=>exact .LA (by rw[nI];exact hc) (h1 rfl)
 |false=>exact .LB (by rw[nI];exact hc) (h2 rfl)
def xE(I:Nat->aV->IH->Prop)(m:Nat)(K:KO):KO:=λo a h=>match o with
 | .normal=>∃m' a0,m'<m/\weaker a0 a/\I m' a0 h
 |o=>K o a h
def aa3(I:Nat->aV->IH->Prop)(hb:∀m a h,I m a h->EV P c a h (xE I m K)):∀m a h,I m a h->EV P (.loop c) a h K:=by
 intro m;induction m using Nat.strongRecOn with
 |ind m ih=>
  intro a h hI;refine .loop _ (hb m a h hI) ?_ ?_
  .rintro a' h' ⟨m',a0,hlt,hw,hI'⟩;exact .weaken a0 hw.1 hw.2 (ih m' hlt a0 h' hI')
  .intro o a' h' hm hn;exact pT
def RB{a0:aV}(hw:weaker a0 a)(h1:EV P c a0 h K):EV P c a h K:=.weaken a0 hw.1 hw.2 h1
section
variable {ds:kI Tmp} {rest:kI bV} {h:IH} {K:KO}
variable{d:Nat}{op:aF}
def step{v:vI}{h':IH}(hn:Nat.blt d n=true)(hr:op.run P (ev l) h=some (v,h'))
 (next:aH P ds rest (act n ((d,v)::l) D pm ro) h' K):aH P ds (⟨⟨some d,none,op⟩,[]⟩::rest) (act n l D pm ro) h K:=
 .lu rfl v h' Cp DA DB
def stepG{t:Nat}{want:Bool}(hn:Nat.blt d n=true)(b:Bool)(ht:lk l t=.bool b)
 (h1:b=want->∃v h',op.run P (ev l) h=some (v,h')/\aH P ds rest (act n ((d,v)::l) D pm ro) h' K)
 (h2:b≠want->aH P ds rest (act n ((d,sS)::l) D pm ro) h K):aH P ds (⟨⟨some d,some (t,want),op⟩,[]⟩::rest) (act n l D pm ro) h K:=by
 by_cases e:b=want
 .obtain⟨v,h',hr,hnx⟩:=h1 e;refine .lu ?_ v h' Cp DA (by rw[qf hn];exact hnx);show(act n l D pm ro).wants (some (t,want))=some true;rw[He,ht,e];cases want<;>rfl
 .refine .skip ?_ (by rw[qf hn];exact h2 e);show(act n l D pm ro).wants (some (t,want))=some false;rw[He,ht];cases want<;>cases b<;>first|rfl|exact absurd rfl e
end
end
def Cs(cf:gV)(K:KR):KO:=λo a h=>
 match o with
 | .normal| .ret=>∃v,qB cf.results a.tmps h=some v/\RD a/\K (.ok v) a.pm h
 | .panic ch=>RD a/\K (.fT ch) a.pm h
 | .exit _=>False
where RD (a:aV):Prop:=a.defers=[]
def aa4{f:agR}{args cap:kI vI}{pm:x8 FrameMode}{h:IH}{K:KR}(fn:Func)(hf:P.funcs[f]? =some fn)(cf:gV)(hcf:uB P fn=some cf)
 (hb:EV P cf.body (Ab cf.ntmps (args++cap) pm) h (Cs cf K)):CALL P ⟨.func f,args,cap,pm⟩ h K:=by
 refine .enter f (args++cap) (by simp only[target,jK]) fn hf cf hcf _ hb ?_ ?_
 .intro o a h hm e;cases o with
  |exit _=>exact hm
  |_=>cases e
 .intro o a h' m hm he;cases o with
  |exit _=>cases hm
  |normal=>
   exact sA
  |ret=>
   exact sA
  |panic ch=>
   obtain⟨h2,h3⟩:=hm;cases he;have h2:a.defers=[]:=h2;rw[h2];exact .fT ch h3
end Go.Ideal
namespace Go.Ideal
noncomputable def aa5(k:Int)(l:kI Int):kI Int:=
 List.rec (motive:=λ_=>kI Int) [k] (λx l ih=>cond (leZ k x) (k::x::l) (x::ih)) l
noncomputable def aa6(l:kI MapEntry):x8 (kI Int):=
 List.rec (motive:=λ_=>x8 (kI Int)) (some []) (λe _ ih=>match e.key,ih with
  | .int .i64 k,some r=>some (aa5 k r)
  |_,_=>none) l
noncomputable def anK(s f:Nat):Nat->x8 (gM->IH->x8 (kI vI×Nat×Nat)):=λg=>
 cond (Nat.beq g s) (some λq h=>match q.args with
  |[.func (.func f') ⟨[]⟩ ⟨[.pointer (some ⟨b,o,none⟩)]⟩]=>cond (Nat.beq f' f) (match h.nR b o 1 with
   |some [.map (some m)]=>match h.get m with
    |some (.map es _)=>match aa6 es with
     |some l=>some (lN (λk=>.int .i64 k) l,iL l,1)
     |none=>none
    |_=>none
   |_=>none) none
  |_=>none) none
noncomputable def Ma(a b:dN):Bool:=
 match a,b with
 | .cells x,.cells y=>ou 5 (.agg ⟨x⟩) (.agg ⟨y⟩)
 |_,_=>false
def aa7{a b:dN}(h:Ma a b=true):a=b:=by
 unfold Ma at h;split at h
 .have:=yS _ _ _ h;injection this with this;injection this with this;rw[this]
 .cases h
noncomputable def EE(l:kI (Nat×dN))(h:IH):Bool:=
 Gp (λp=>match h.get p.1 with
  |some o=>Ma p.2 o
  |none=>false) l
noncomputable def heapT:kI (Nat×dN)->T dN
 |[]=>.leaf
 |(i,o)::l=>(heapT l).set i (some o)
def Mc:∀(l:kI (Nat×dN)) (i:Nat),(heapT l).get i=none\/∃o,(i,o)∈l/\(heapT l).get i=some o
 |[],i=>.inl rfl
 |(j,o)::l,i=>by
  simp only[heapT,T.nH];by_cases e:i=j
  .subst e;right;exact⟨o,cB ..,An⟩
  .rw[if_neg e];rcases Mc l i with h|⟨o',h1,h2⟩
   .exact .inl h
   .exact .inr ⟨o',cO _ h1,h2⟩
variable{l:kI (Nat×dN)}{h:IH}
def RG(hh:EE l h=true):∀i o,(i,o)∈l->h.get i=some o:=by
 intro i o hm;unfold EE at hh;rw[Qk,lK]at hh;have:=hh _ hm;dsimp only at this;split at this
 .rename_i o' he;rw[he,aa7 this]
 .cases this
noncomputable def known(l:kI (Nat×dN))(n:Nat)(fn:Nat)(args:kI vI)(v:vI):gM->IH->x8 (vI×IH):=λq h=>
 match q with
 |⟨.func f,as,[],none⟩=>cond (Nat.beq f fn&&ou 5 (.tuple ⟨args⟩) (.tuple ⟨as⟩)&&Nat.ble n h.next&&EE l h) (some (v,h)) none
 |_=>none
variable{n:Nat}{v:vI}
def aa8{P:Program}{fn:Nat}{args:kI vI}(hv:cK v=true)(hb:rE n args=true)(hl:l.all (λp=>Nat.blt p.1 n&&DW n p.2)=true)
 (hgl:P.globals.size<=n) (hc:CALL P ⟨.func fn,args,[],none⟩ ⟨heapT l,n,n⟩ (λr pm h'=>pm=none/\r=.ok v/\h'.low=n))
 {q:gM} {h:IH} {v':vI} {h':IH} (hk:known l n fn args v q h=some (v',h')):CALL P q h (λr pm h2=>r=.ok v'/\pm=none/\h2=h'):=by
 unfold known at hk;split at hk
 .rename_i f as;cases hcd:(Nat.beq f fn&&ou 5 (.tuple ⟨args⟩) (.tuple ⟨as⟩)&&Nat.ble n h.next&&EE l h)with
  |false=>rw[hcd]at hk;cases hk
  |true=>
   rw[hcd]at hk;simp only[cond,aD,di]at hk;obtain⟨rfl,rfl⟩:=hk;simp only[afD]at hcd;obtain⟨⟨⟨h1,h2⟩,h3⟩,h4⟩:=hcd;have h1:=kR h1;subst h1;have h2:=yS _ _ _ h2;injection h2 with h2;injection h2 with h2;subst h2;refine .memo ⟨heapT l,n,n⟩ v hv rfl ?_ (mK h3) hgl ?_ _ hc (λr pm h' h=>h) ⟨rfl,rfl,rfl⟩
   .show nS n (.func (.func f) ⟨args⟩ ⟨[]⟩)=true;simp[nS,rE,hb]
   .intro i o ho;rcases Mc l i with e|⟨o',e1,e2⟩
    .exact absurd (ho.symm.trans e) An
    .have:o'=o:=by have:=e2.symm.trans ho;simpa using this
     subst this;rw[lK]at hl;have:=hl _ e1;simp only[afD]at this;exact⟨Co this.1,RG h4 i o' e1,this.2⟩
 .cases hk
noncomputable def leaves(l:kI (Nat×dN))(n:Nat)(v:vI):BR:=λr pm h=>
 match pm with
 |some _=>false
 |none=>match r with
  | .ok v'=>ou 50 v v'&&Nat.beq h.next n&&Nat.beq h.low 0&&EE l h
  | .fT _=>false
def Hf{V:Env}(hV:Au V){n:Nat}{q:gM}{h:IH}{K:BR}(hb:(BV V n).call q h K=true):CALL V.P q h (λr pm h=>K r pm h=true):=
 (L8 hV n).call q h K hb
noncomputable def gives(v:vI)(n:Nat):BR:=λr pm h=>match pm with
 |some _=>false
 |none=>match r with
  | .ok v'=>ou 5 v v'&&Nat.beq h.low n
  | .fT _=>false
def RH{r:iU}{pm:x8 FrameMode}(hg:gives v n r pm h=true):pm=none/\r=.ok v/\h.low=n:=by
 unfold gives at hg;split at hg
 .cases hg
 .split at hg
  .simp only[afD]at hg;exact⟨rfl,by rw[yS _ _ _ hg.1],kR hg.2⟩
  .cases hg
