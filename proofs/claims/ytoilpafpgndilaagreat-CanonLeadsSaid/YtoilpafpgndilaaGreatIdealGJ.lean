/- Part. -/
import Derived.Test.YtoilpafpgndilaaGreatIdealEJ
set_option linter.all false
namespace Go.Ideal
def mU{a b:Nat}(h:Nat.beq a b=true):a=b:=tZ h
def ym{α:Type}(l:ae α)(b:Bool):ae α:=
 match l with
 |[]=>[]
 |y::l=>match b with
  |true=>y::ym l false
  |false=>ym l true
def XN{α:Type}(l:ae α):∀b,(List.rec (motive:=λ_=>Bool->ae α) (λ_=>[]) (λy _ r b=>Bool.rec (motive:=λ_=>ae α) (r true) (y::r false) b) l:Bool->ae α) b=ym l b:=by
 induction l with
 |nil=>intro b;rfl
 |cons y l ih=>intro b;cases b
               .simp only[ym];exact ih true
               .simp only[ym];exact congrArg (y::·) (ih false)
def LD{α:Type}:∀(l:ae α) (k:Nat),(ym l true)[k]? =l[2*k]?/\(ym l false)[k]? =l[2*k+1]?
 |[],k=>by simp[ym]
 |y::l,k=>by
  simp only[ym];refine⟨?_,?_⟩
  .cases k with
   |zero=>rfl
   |succ k=>rw[uf,(LD l k).2,show 2*(k+1)=(2*k+1)+1 by omega,uf]
  .rw[(LD l k).1,uf]
def QL{α:Type}:∀(f:Nat) (l:ae α) (i:Nat) (x:α),(Fy f l).get i=some x->l[i]? =some x
 |0,l,i,x,h=>by cases h
 |f+1,[],i,x,h=>by cases h
 |f+1,y::l,i,x,h=>by
  have e:Fy (f+1) (y::l)=.node (some y) (Fy f (ym l true)) (Fy f (ym l false)):=by
   rw[<- XN l true,<- XN l false];rfl
  rw[e]at h;cases i with
  |zero=>exact h
  |succ m=>
   rw[T.zf]at h;rw[uf];split at h
   .rename_i hm;have:=QL f _ _ _ h;rw[(LD l _).1]at this
    rwa [show 2*(m/2)=m by omega]at this
   .rename_i hm;have:=QL f _ _ _ h;rw[(LD l _).2]at this
    rwa [show 2*(m/2)+1=m by omega]at this
def FZ{p:ah->ah->Bool}(hp:∀x y,p x y=true->x=y):∀(a b:ae ah),
 (List.rec (motive:=λ_=>ae ah->Bool) (λb=>match b with|[]=>true|_=>false) (λx _ r b=>match b with|y::b=>cond (p x y) (r b) false|[]=>false) a:ae ah->Bool) b=true->a=b
 |[],[],_=>rfl
 |[],_::_,h=>by cases h
 |x::a,[],h=>by cases h
 |x::a,y::b,h=>by
  dsimp only at h;cases hc:p x y with
  |false=>rw[hc]at h;cases h
  |true=>rw[hc]at h;rw[hp x y hc,FZ hp a b h]
def Cn:∀(f:Nat) (v u:ah),qH f v u=true->v=u
 |0,v,u,h=>by cases h
 |f+1,v,u,h=>by
  have ih:=Cn f;change (match (generalizing:=false) v,u with
   | .bool a,.bool b=>a==b
   | .int .i64 a,.int .i64 b=>Fs a b
   | .int j a,.int k b=>j==k&&a==b
   | .string a,.string b=>a.data.toList==b.data.toList
   | .pointer none,.pointer none=>true
   | .pointer (some ⟨i,o,none⟩),.pointer (some ⟨j,p,none⟩)=>Nat.beq i j&&Nat.beq o p
   | .slice none n c,.slice none m d=>Nat.beq n m&&Nat.beq c d
   | .slice (some ⟨i,o,some f⟩) n c,.slice (some ⟨j,p,some g⟩) m d=>Nat.beq i j&&Nat.beq o p&&Nat.beq f g&&Nat.beq n m&&Nat.beq c d
   | .map none,.map none=>true
   | .map (some i),.map (some j)=>Nat.beq i j
   | .nilIface,.nilIface=>true
   | .nilFunc,.nilFunc=>true
   | .iface t v,.iface s u=>Nat.beq t s&&qH f v u
   | .agg ⟨a⟩,.agg ⟨b⟩=>(List.rec (motive:=λ_=>ae ah->Bool) (λb=>match b with|[]=>true|_=>false) (λx _ r b=>match b with|y::b=>cond (qH f x y) (r b) false|[]=>false) a:ae ah->Bool) b
   | .tuple ⟨a⟩,.tuple ⟨b⟩=>(List.rec (motive:=λ_=>ae ah->Bool) (λb=>match b with|[]=>true|_=>false) (λx _ r b=>match b with|y::b=>cond (qH f x y) (r b) false|[]=>false) a:ae ah->Bool) b
   | .func f' ⟨a⟩ ⟨c⟩,.func g ⟨b⟩ ⟨d⟩=>f'==g&&
      (List.rec (motive:=λ_=>ae ah->Bool) (λb=>match b with|[]=>true|_=>false) (λx _ r b=>match b with|y::b=>cond (qH f x y) (r b) false|[]=>false) a:ae ah->Bool) b&&
      (List.rec (motive:=λ_=>ae ah->Bool) (λb=>match b with|[]=>true|_=>false) (λx _ r b=>match b with|y::b=>cond (qH f x y) (r b) false|[]=>false) c:ae ah->Bool) d
   |_,_=>false)=true at h
  split at h
  .rw[eq_of_beq h]
  .rw[Iz]at h;rw[eq_of_beq h]
  .simp only[eP]at h;rw[eq_of_beq h.1,eq_of_beq h.2]
  .rename_i a b;have:=eq_of_beq h;cases a with|mk a=>cases b with|mk b=>simp only at this;congr 2;exact Array.toList_inj.mp this
  .rfl
  .simp only[eP]at h;rw[mU h.1,mU h.2]
  .simp only[eP]at h;rw[mU h.1,mU h.2]
  .simp only[eP]at h;rw[mU h.1.1.1.1,mU h.1.1.1.2,mU h.1.1.2,mU h.1.2,mU h.2]
  .rfl
  .rw[mU h]
  .rfl
  .rfl
  .simp only[eP]at h;rw[mU h.1,ih _ _ h.2]
  .rw[FZ ih _ _ h]
  .rw[FZ ih _ _ h]
  .simp only[eP]at h;rw[eq_of_beq h.1.1,FZ ih _ _ h.1.2,FZ ih _ _ h.2]
  .cases h
def QM{P:Program}{a:bi}{h:IH}:∀{re:ae jc},Ih P re a h=true->
 ∀r∈re,a.wants r.guard≠some false->∃u h2,r.op.run P a.eval h=some (u,h2)/\∀d,r.dst=some d->dS a.tmps d=u
 |[],_,r,hr,_=>by cases hr
 |r0::re,hs,r,hr,hw=>by
  have e:Ih P (r0::re) a h=cond (match a.wants r0.guard with
   |some false=>true
   |_=>match r0.op.run P a.eval h with
    |some (u,_)=>match r0.dst with
     |some d=>qH 50 (dS a.tmps d) u
     |none=>true
    |none=>false) (Ih P re a h) false:=rfl
  rw[e]at hs;cases hc:(match a.wants r0.guard with
   |some false=>true
   |_=>match r0.op.run P a.eval h with
    |some (u,_)=>match r0.dst with
     |some d=>qH 50 (dS a.tmps d) u
     |none=>true
    |none=>false)with
  |false=>rw[hc]at hs;cases hs
  |true=>
   rw[hc]at hs;cases hr with
   |tail _ hr=>exact QM hs r hr hw
   |head=>
    split at hc
    .rename_i hg;exact absurd hg hw
    .split at hc
     .rename_i u h2 hrun;refine⟨u,h2,hrun,λd hd=>?_⟩;rw[hd]at hc;exact Cn _ _ _ hc
     .cases hc
def QN{P:Program}{c:dz}{a:bi}{h:IH}{K:KO}(e:EV P c a h K):∀K':KO,(∀o a h,K o a h->K' o a h)->EV P c a h K':=by
 refine EV.rec (P:=P) (motive_1:=λc a h K _=>∀K':KO,(∀o a h,K o a h->K' o a h)->EV P c a h K')
  (motive_2:=λds l a h K _=>∀K':KO,(∀o a h,K o a h->K' o a h)->aM P ds l a h K')
  (motive_3:=λ_ _ _ _ _ _ _=>True) (motive_4:=λ_ _ _ _=>True)
  ?_ ?_ ?_ ?_ ?_ ?_ ?_ ?_ ?_ ?_ ?_ ?_ ?_ ?_ ?_ ?_ ?_ ?_ ?_ ?_ ?_ ?_ ?_ ?_ ?_ ?_ ?_ ?_ ?_ ?_ ?_ ?_ e
 .intro a h K hk K' hK;exact .skip (hK _ _ _ hk)
 .intro ds l a h K ho i K' hK;exact .ops (i K' hK)
 .intro x y a h K M h1 h2 h3 i1 i2 K' hK;exact .seq M h1 (λa' h' hm=>i2 a' h' hm K' hK) (λo a' h' hm hn=>hK _ _ _ (h3 o a' h' hm hn))
 .intro c x y a h K hc h1 i1 K' hK;exact .Qx hc (i1 K' hK)
 .intro c x y a h K hc h1 i1 K' hK;exact .Qy hc (i1 K' hK)
 .intro id c a h K M h1 h2 i1 K' hK;exact .block M h1 (λo a' h' hm=>hK _ _ _ (h2 o a' h' hm))
 .intro c a h K M h1 h2 h3 i1 i2 K' hK;exact .loop M h1 (λa' h' hm=>i2 a' h' hm K' hK) (λo a' h' hm hn=>hK _ _ _ (h3 o a' h' hm hn))
 .intro c a h K h1 i1 K' hK;exact .scope (i1 K' hK)
 .intro id a h K hk K' hK;exact .exit (hK _ _ _ hk)
 .intro a h K hk K' hK;exact .ret (hK _ _ _ hk)
 .intro f ps assign body a h K fn first captured hf a1 h1 r hr M hc hok jC i1 K' hK
  exact .rangeFunc fn first captured hf a1 h1 r hr M hc (λv pm h2 hm=>by
   obtain⟨lp,q1,q2,q3⟩:=hok v pm h2 hm;exact⟨lp,q1,q2,hK _ _ _ q3⟩) (λch pm h2 hm=>hK _ _ _ (jC ch pm h2 hm))
 .intro c a h K a0 hw hn h1 i1 K' hK;exact .weaken a0 hw hn (i1 K' hK)
 .intro ds a h K hk K' hK;exact .nil (hK _ _ _ hk)
 .intro ds s l a h K hw h1 i1 K' hK;exact .skip hw (i1 K' hK)
 .intro ds s l a h K hw v h' hr hs h1 i1 K' hK;exact .mg hw v h' hr hs (i1 K' hK)
 .intro ds s l a h K hw q hq M hc hs hok jC i1 i2 K' hK;exact .call hw q hq M hc hs (λv pm h' hm=>i2 v pm h' hm K' hK) (λch pm h' hm=>hK _ _ _ (jC ch pm h' hm))
 .intro ds s l a h K hw ho hre hm hro h1 i1 K' hK;exact .Qz hw ho hre hm hro (i1 K' hK)
 .intro ds s l a h K hw ho hre m hm hro h1 i1 K' hK;exact .recoverD hw ho hre m hm hro (i1 K' hK)
 .intro ds s l a h K hw x ho t v hx hk K' hK;exact .panic hw x ho t v hx (hK _ _ _ hk)
 .intro ds s l a h K hw f args ho hre hro fn first captured hf h1 i1 K' hK;exact .defer hw f args ho hre hro fn first captured hf (i1 K' hK)
 .intro ds s l a h K hw x ho hre alts ha h1 i1 K' hK;exact .next hw x ho hre alts ha (λvh hv=>i1 vh hv K' hK)
 all_goals intros;trivial
structure XO(V:Env)(E:Ev):Prop where
 code:∀c a h K,E.code c a h K=true->EV V.P c a h (λo a h=>K o a h=true)
 call:∀q h K,E.call q h K=true->CALL V.P q h (λr pm h=>K r pm h=true)
structure Ef(V:Env):Prop where
 memo:∀f q h v h',(V.memo f).bind (λg=>g q h)=some (v,h')->q.pm=none->(∃args,target V.P q=some (f,args))->CALL V.P q h (λr pm h2=>r=.ok v/\pm=none/\h2=h')
 fn:∀f cf,V.F f=some cf->∃fn,V.P.funcs[f]? =some fn/\xS V.P fn=some cf
def Co{a b:Bool}(h:cond a b false=true):a=true/\b=true:=by
 cases a with
 |false=>cases h
 |true=>exact⟨rfl,h⟩
section
variable {V:Env} {E:Ev} (hE:XO V E)
include hE
variable{h:IH}{s:bN}{ds:ae Tmp}{l:ae bN}{a:bi}{next:bi->IH->Bool}{k:BO}
def XP(hw:a.wants s.s.guard=some true)
 (hn:∀a h,next a h=true->aM V.P ds l a h (λo a h=>k o a h=true)) (hb:K9 V.P E ds s a h next k=true):aM V.P ds (s::l) a h (λo a h=>k o a h=true):=by
 unfold K9 at hb;cases hq:Ap s.s.op a.eval with
 |none=>rw[hq]at hb;cases hb
 |some q=>
  rw[hq]at hb;have hc:=hE.call _ _ _ hb;refine .call hw q hq _ hc ?_ ?_ ?_
  .intro v pm h' hm;exact QM (Co hm).1
  .intro v pm h' hm;exact hn _ _ (Co hm).2
  .intro ch pm h' hm;exact hm
omit hE in
def QO{b:Bool}(h:Ii s b=true):s.re=[]/\b=true:=by
 unfold Ii at h;split at h
 .rename_i e;exact⟨e,h⟩
 .cases h
omit hE in
def agN(hw:a.wants s.s.guard=some true)
 (hn:∀a h,next a h=true->aM V.P ds l a h (λo a h=>k o a h=true)) (hb:PN V.P s a h next=true):aM V.P ds (s::l) a h (λo a h=>k o a h=true):=by
 unfold PN at hb;split at hb
 .rename_i v h' hr;split at hb
  .rename_i e;exact .mg hw v h' hr (by rw[e];intro r hr;cases hr) (hn _ _ hb)
  .exact .mg hw v h' hr (QM (Co hb).1) (hn _ _ (Co hb).2)
 .cases hb
def agO(hw:a.wants s.s.guard=some true)
 (hn:∀a h,next a h=true->aM V.P ds l a h (λo a h=>k o a h=true)) (hb:La V.P E ds s a h next k=true):aM V.P ds (s::l) a h (λo a h=>k o a h=true):=by
 unfold La at hb;split at hb
 .exact XP hE hw hn hb
 .exact XP hE hw hn hb
 .rename_i ho;obtain⟨hre,hb⟩:=QO hb;split at hb
  .cases hb
  .rename_i hro;split at hb
   .rename_i hm;exact .Qz hw ho hre hm hro (hn _ _ hb)
   .rename_i m hm;exact .recoverD hw ho hre m hm hro (hn _ _ hb)
 .rename_i x ho;split at hb
  .rename_i t v hx;exact .panic hw x ho t v hx hb
  .cases hb
 .rename_i f args ho;obtain⟨hre,hb⟩:=QO hb;split at hb
  .cases hb
  .rename_i hro;split at hb
   .rename_i fn first captured hf
    exact .defer hw f args ho hre hro fn first captured hf (hn _ _ hb)
   .cases hb
 .rename_i x ho;obtain⟨hre,hb⟩:=QO hb;split at hb
  .rename_i alts ha;refine .next hw x ho hre alts ha λvh hv=>?_
   rw[Wt,jy]at hb;exact hn _ _ (hb vh hv)
  .cases hb
 .exact agN hw hn hb
def QR{ds:ae Tmp}{k:BO}:∀{l:ae bN} {a:bi} {h:IH},Ij V.P E ds l a h k=true->aM V.P ds l a h (λo a h=>k o a h=true)
 |[],a,h,hb=>.nil hb
 |s::l,a,h,hb=>by
  have e:Ij V.P E ds (s::l) a h k=(match a.wants s.s.guard with
   |some true=>La V.P E ds s a h (λa h=>Ij V.P E ds l a h k) k
   |some false=>Ij V.P E ds l (a.put s.s.dst wF) h k
   |none=>false):=rfl
  rw[e]at hb;split at hb
  .rename_i hw;exact agO hE hw (λa h h1=>QR h1) hb
  .rename_i hw;exact .skip hw (QR hb)
  .cases hb
def LF{cf:iG}{ts:T ah}:∀{ds:ae Deferred} {m:FrameMode} {h:IH} {k:jB->IH->Bool},DY E cf ts ds m h k=true->LEAVE V.P cf ts ds m h (λr h=>k r h=true)
 |[],m,h,k,hb=>by
  have e:DY E cf ts [] m h k=(match (generalizing:=false) m with
   | .returning=>match uo cf.results ts h with
     |some v=>k (.ok v) h
     |none=>false
   | .panicking ch=>k (.gI ch) h
   | .run=>false):=rfl
  rw[e]at hb;split at hb
  .split at hb
   .rename_i v hv;exact .ret v hv hb
   .cases hb
  .rename_i ch;exact .gI ch hb
  .cases hb
 |d::ds,m,h,k,hb=>by
  have e:DY E cf ts (d::ds) m h k=(match (generalizing:=false) m with
   | .run=>false
   |m=>match (generalizing:=false) d with
    |{target:=.collected r,.. }=>match h.get r with
     |some (.jo true)=>DY E cf ts ds m (h.set r (.jo false)) k
     |_=>false
    |{target:=.fn fn ⟨captured⟩,args:=⟨args⟩}=>E.call ⟨fn,args,captured,some m⟩ h λr pm h=>match pm with
     |none=>false
     |some m'=>match r with
      | .ok _=>DY E cf ts ds (Cc m') h k
      | .gI ch=>DY E cf ts ds (Fv m' ch) h k
    |_=>false):=rfl
  rw[e]at hb;split at hb
  .cases hb
  .rename_i hm;have hm':m≠.run:=by intro e;exact hm e
   split at hb
   .rename_i r args;split at hb
    .rename_i hr;exact .coll hm' r hr (LF hb)
    .cases hb
   .rename_i fn captured args;have hc:=hE.call _ _ _ hb;refine .call hm' _ hc ?_ ?_ ?_
    .intro r pm h' hM e;rw[e]at hM;cases hM
    .intro v m' h' hM;exact LF hM
    .intro ch m' h' hM;exact LF hM
   .cases hb
variable (hV:Ef V)
include hV
variable{q:iI}{args:ae ah}
def XQ{f:fO}{k:BR}(ht:target V.P q=some (f,args))(hb:DZ V E f args q.pm h k=true):CALL V.P q h (λr pm h=>k r pm h=true):=by
 unfold DZ at hb;split at hb
 .cases hb
 .rename_i cf hcf;obtain⟨fn,hf,hfn⟩:=hV.fn f cf hcf;have hc:=hE.code _ _ _ _ hb;refine .enter f args ht fn hf cf hfn _ hc ?_ ?_
  .intro o a' h' hM e;rw[e]at hM;cases hM
  .intro o a' h' m hM e;rw[e]at hM;exact LF hE hM
omit hV in
def agP{l:Nat}{k:BR}(hq:q.fn=.yield l)(hpm:q.pm=none)(hb:PO E l q.args h k=true):CALL V.P q h (λr pm h=>k r pm h=true):=by
 unfold PO at hb;split at hb
 .rename_i r hr;obtain⟨ha,hb⟩:=Co hb;have ha:=mU ha;rw[xV,xV]at ha;have hc:=hE.code _ _ _ _ hb;refine .round l hq hpm r hr ha _ hc ?_ ?_
  .intro o a' h' hM;split at hM
   .split at hM
    .rename_i r1 hr1;split at hM
     .rename_i hs;exact⟨rfl,r1,hr1,hs⟩
     .cases hM
    .cases hM
   .cases hM
  .intro a' h' r1 hM hr1;simp only[hr1]at hM;split at hM
   .have hc2:=hE.code _ _ _ _ hM;refine QN hc2 _ ?_;intro o a2 h2 hK;unfold Wq at hK;split at hK
    .rename_i hd;split at hK
     .rename_i r2 hr2;refine⟨r2,hr2,hd,?_⟩;cases o<;>exact hK
     .cases hK
    .cases hK
   .cases hM
 .cases hb
omit hE in
def agQ{k:BR}{f:Nat}{other:Bool}(ht:target V.P q=some (f,args))(ho:other=true->CALL V.P q h (λr pm h=>k r pm h=true))
 (hb:PP V f q h k other=true):CALL V.P q h (λr pm h=>k r pm h=true):=by
 unfold PP at hb;split at hb
 .exact ho hb
 .rename_i g hg;split at hb
  .exact ho hb
  .rename_i hpm;split at hb
   .rename_i v h' hv;refine .uy _ (hV.memo f q h v h' (by rw[hg];exact hv) hpm ⟨args,ht⟩) ?_;rintro r pm h2 ⟨rfl,rfl,rfl⟩;exact hb
   .exact ho hb
def agR(q:iI)(h:IH)(k:BR)(hb:PR V E q h k=true):CALL V.P q h (λr pm h=>k r pm h=true):=by
 unfold PR at hb;split at hb
 .rename_i l hq;split at hb
  .rename_i hpm;exact agP hE hq hpm hb
  .cases hb
 .split at hb
  .cases hb
  .rename_i f' args ht;refine agQ hV ht (λhb=>?_) hb;split at hb
   .exact XQ hE hV ht hb
   .rename_i g hg;split at hb
    .cases hb
    .rename_i hpm;have hent:∀h k,DZ V E f' args none h k=true->CALL V.P q h (λr pm h=>k r pm h=true):=by
      intro h k hh;exact XQ hE hV ht (by rw[hpm];exact hh)
     split at hb
     .rw[hpm]at hb;exact hent _ _ hb
     .rw[hpm]at hb;exact hent _ _ hb
     .rename_i cs n f hne hgq;obtain⟨h1,hb⟩:=Co hb;obtain⟨h2,hb⟩:=Co hb;simp only[eP,xM]at h1;have hne':cs≠[]:=by
       intro e;subst e;exact hne rfl
      refine .cut cs n f h1.1 hne' ?_ _ (hent _ _ h2) hpm ?_ hb
      .rcases h1.2 with e|e
       .exact .inl (mU e)
       .right;have:=mU e;rw[xV]at this;exact this
      .intro r pm h' hM;unfold Ws at hM;split at hM
       .cases hM
       .split at hM
        .rename_i i o f'' n' c;obtain⟨h3,h4⟩:=Co hM;simp only[eP,xM,DC]at h3;obtain⟨⟨⟨⟨e1,e2⟩,e3⟩,e4⟩,e5⟩:=h3;have e1:=mU e1;have e2:=mU e2;subst e1;subst e2;refine⟨rfl,mU e5,i,o,c,rfl,pq e4,?_,?_⟩
         .intro e;rcases e3 with e3|e3
          .subst e;cases e3
          .exact mU e3
         .split at h4
          .rename_i l hl;rw[FZ (Cn 5) _ _ h4]at hl;rw[xV]at hl;rw[hl]
          .cases h4
        .cases hM
omit hV in
def agS(c:dz)(a:bi)(h:IH)(k:BO)(hb:Lb V E c a h k=true):EV V.P c a h (λo a h=>k o a h=true):=by
 cases c with
 |skip=>exact .skip hb
 |ops ds l=>exact .ops (QR hE hb)
 |seq x y=>
  refine .seq _ (hE.code _ _ _ _ hb) ?_ ?_
  .intro a' h' hm;exact hE.code _ _ _ _ hm
  .exact ki
 |cond c x y=>
  simp only[Lb]at hb;split at hb
  .rename_i hc;exact .Qx hc (hE.code _ _ _ _ hb)
  .rename_i hc;exact .Qy hc (hE.code _ _ _ _ hb)
  .cases hb
 |block id c=>exact .block _ (hE.code _ _ _ _ hb) (λo a' h' hm=>hm)
 |loop c=>
  refine .loop _ (hE.code _ _ _ _ hb) ?_ ?_
  .intro a' h' hm;exact hE.code _ _ _ _ hm
  .exact ki
 |scope c=>exact .scope (hE.code _ _ _ _ hb)
 |exit id=>exact .exit hb
 |ret=>exact .ret hb
 |fail=>cases hb
 |rangeFunc f ps assign body=>
  simp only[Lb]at hb;split at hb
  .rename_i fn first captured hf
   split at hb
   .rename_i hro;refine .rangeFunc fn first captured hf _ _ h.next (.inl ⟨hro,rfl,rfl,rfl⟩) _ (hE.call _ _ _ hb) ?_ ?_
    .exact hJ
    .intro ch pm h2 hm;exact hm
   .rename_i l0 hro;split at hb
    .rename_i r0 hr0;refine .rangeFunc fn first captured hf _ _ r0.defers (.inr ⟨l0,r0,hro,rfl,rfl,hr0,rfl⟩) _ (hE.call _ _ _ hb) ?_ ?_
     .exact hJ
     .intro ch pm h2 hm;exact hm
    .cases hb
  .cases hb
end
def QS{V:Env}(hV:Ef V):∀n,XO V (FB V n)
 |0=>⟨(λ_ _ _ _ h=>by cases h),(λ_ _ _ h=>by cases h)⟩
 |n+1=>⟨λc a h k hb=>agS (QS hV n) c a h k hb,λq h k hb=>agR (QS hV n) hV q h k hb⟩
def F3(P:Program)(cut memo)(hm:∀f q h v h',(memo f).bind (λg=>g q h)=some (v,h')->q.pm=none->(∃args,target P q=some (f,args))->CALL P q h (λr pm h2=>r=.ok v/\pm=none/\h2=h')):Ef (sI P cut memo) where
 memo:=hm
 fn f cf h:=by
  have e:(sI P cut memo).F f=(match (Fy 100000 P.funcs.toList).get f with
   |some fn=>xS P fn
   |none=>none):=rfl
  rw[e]at h;split at h
  .rename_i fn hf;refine⟨fn,?_,h⟩;have:=QL _ _ _ _ hf;rw[zZ]at this;exact this
  .cases h
variable {P:Program}
def lk(l:qr)(k:Nat):ah:=
 match l with
 |[]=>dX
 |(j,v)::l=>cond (Nat.beq k j) v (lk l k)
noncomputable def iD:qr->T ah
 |[]=>.leaf
 |(j,v)::l=>(iD l).set j (some v)
def yo:∀(l:qr) (k:Nat),dS (iD l) k=lk l k
 |[],k=>rfl
 |(j,v)::l,k=>by
  have ih:=yo l k;unfold dS at ih⊢;simp only[iD,lk,T.nJ];by_cases e:k=j
  .subst e;simp
  .have:Nat.beq k j=false:=by
    cases hb:Nat.beq k j with
    |false=>rfl
    |true=>exact absurd (tZ hb) e
   rw[if_neg e,this];exact ih
noncomputable def act(n:Nat)(l:qr)(D:ae Deferred)(pm:ak FrameMode)(ro:ak Nat):bi:=⟨n,iD l,D,pm,ro⟩
def ev(l:qr)(x:ay):ah:=
 match x with
 | .tmp t=>lk l t
 | .const v=>v
 | .global g=>.pointer (some ⟨g,0,none⟩)
 | .func f=>.func (.func f) #[] #[]
section
variable {n:Nat} {l:qr} {D:ae Deferred} {pm:ak FrameMode} {ro:ak Nat}
def pY:(act n l D pm ro).eval=ev l:=by
 funext x
 cases x with
 |tmp t=>exact yo l t
 |_=>rfl
def sO{d:Nat}{v:ah}(h:Nat.blt d n=true):(act n l D pm ro).put (some d) v=act n ((d,v)::l) D pm ro:=by
 simp only[act,bi.put,bi.set,h,cond];rfl
def I8(t:Nat)(want:Bool):(act n l D pm ro).wants (some (t,want))=match lk l t with
 | .bool b=>some (cond want b (!b))
 | .chan _=>some false
 |_=>none:=by
 unfold bi.wants;simp only[act,yo];cases lk l t<;>rfl
def weaker(a0 a:bi):Prop:=(∀i,dS a0.tmps i=dX\/dS a0.tmps i=dS a.tmps i)/\a0.n=a.n/\a0.defers=a.defers/\a0.pm=a.pm/\a0.ro=a.ro
def sub:qr->qr->Prop
 |[],_=>True
 |(k,v)::l0,l=>lk l k=v/\sub l0 l
def XR:∀{l0 l:qr},sub l0 l->∀i,lk l0 i=dX\/lk l0 i=lk l i
 |[],l,_,i=>.inl rfl
 |(k,v)::l0,l,h,i=>by
  simp only[lk];cases hb:Nat.beq i k with
  |true=>right;rw[tZ hb];exact h.1.symm
  |false=>exact XR h.2 i
def QT{l0:qr}(h:sub l0 l):weaker (act n l0 D pm ro) (act n l D pm ro):=
 ⟨λi=>by simp only[act,yo];exact XR h i,rfl,rfl,rfl,rfl⟩
def Cq(P:Program)(y:dz)(K:KO):KO:=λo a h=>match o with
 | .normal=>EV P y a h K
 |o=>K o a h
variable{K:KO}{h:IH}{a:bi}{x y:dz}
def agT(h1:EV P x a h (Cq P y K)):EV P (.seq x y) a h K:=
 .seq _ h1 (λ_ _ hm=>hm) (λo a' h' hm hn=>by
  exact me)
def AJ(id:Nat)(K:KO):KO:=λo a h=>K (inBlock id o) a h
variable{c:dz}
def agU{id:Nat}(h1:EV P c a h (AJ id K)):EV P (.block id c) a h K:=.block _ h1 (λ_ _ _ hm=>hm)
def I9{c:ay}(b:Bool)(hc:ev l c=.bool b)(h1:b=true->EV P x (act n l D pm ro) h K)(h2:b=false->EV P y (act n l D pm ro) h K):EV P (.cond c x y) (act n l D pm ro) h K:=by
 cases b with
 |true=>exact .Qx (by rw[pY];exact hc) (h1 rfl)
 |false=>exact .Qy (by rw[pY];exact hc) (h2 rfl)
def yu(I:Nat->bi->IH->Prop)(m:Nat)(K:KO):KO:=λo a h=>match o with
 | .normal=>∃m' a0,m'<m/\weaker a0 a/\I m' a0 h
 |o=>K o a h
def agV(I:Nat->bi->IH->Prop)(hb:∀m a h,I m a h->EV P c a h (yu I m K)):∀m a h,I m a h->EV P (.loop c) a h K:=by
 intro m;induction m using Nat.strongRecOn with
 |ind m ih=>
  intro a h hI;refine .loop _ (hb m a h hI) ?_ ?_
  .rintro a' h' ⟨m',a0,hlt,hw,hI'⟩;exact .weaken a0 hw.1 hw.2 (ih m' hlt a0 h' hI')
  .intro o a' h' hm hn;exact me
def XT{a0:bi}(hw:weaker a0 a)(h1:EV P c a0 h K):EV P c a h K:=.weaken a0 hw.1 hw.2 h1
section
variable {ds:ae Tmp} {rest:ae bN} {h:IH} {K:KO}
variable{d:Nat}{op:aK}
def step{v:ah}{h':IH}(hn:Nat.blt d n=true)(hr:op.run P (ev l) h=some (v,h'))
 (next:aM P ds rest (act n ((d,v)::l) D pm ro) h' K):aM P ds (⟨⟨some d,none,op⟩,[]⟩::rest) (act n l D pm ro) h K:=
 .mg rfl v h' wx x6 x7
def stepG{t:Nat}{want:Bool}(hn:Nat.blt d n=true)(b:Bool)(ht:lk l t=.bool b)
 (h1:b=want->∃v h',op.run P (ev l) h=some (v,h')/\aM P ds rest (act n ((d,v)::l) D pm ro) h' K)
 (h2:b≠want->aM P ds rest (act n ((d,wF)::l) D pm ro) h K):aM P ds (⟨⟨some d,some (t,want),op⟩,[]⟩::rest) (act n l D pm ro) h K:=by
 by_cases e:b=want
 .obtain⟨v,h',hr,hnx⟩:=h1 e;refine .mg ?_ v h' wx x6 (by rw[sO hn];exact hnx);show(act n l D pm ro).wants (some (t,want))=some true;rw[I8,ht,e];cases want<;>rfl
 .refine .skip ?_ (by rw[sO hn];exact h2 e);show(act n l D pm ro).wants (some (t,want))=some false;rw[I8,ht];cases want<;>cases b<;>first|rfl|exact absurd rfl e
end
end
def zm(cf:iG)(K:KR):KO:=λo a h=>
 match o with
 | .normal| .ret=>∃v,uo cf.results a.tmps h=some v/\XU a/\K (.ok v) a.pm h
 | .panic ch=>XU a/\K (.gI ch) a.pm h
 | .exit _=>False
where XU (a:bi):Prop:=a.defers=[]
def agW{f:fO}{args cap:ae ah}{pm:ak FrameMode}{h:IH}{K:KR}(fn:Func)(hf:P.funcs[f]? =some fn)(cf:iG)(hcf:xS P fn=some cf)
 (hb:EV P cf.body (DW cf.ntmps (args++cap) pm) h (zm cf K)):CALL P ⟨.func f,args,cap,pm⟩ h K:=by
 refine .enter f (args++cap) (by simp only[target,jW]) fn hf cf hcf _ hb ?_ ?_
 .intro o a h hm e;cases o with
  |exit _=>exact hm
  |_=>cases e
 .intro o a h' m hm he;cases o with
  |exit _=>cases hm
  |normal=>
   exact nv
  |ret=>
   exact nv
  |panic ch=>
   obtain⟨h2,h3⟩:=hm;cases he;have h2:a.defers=[]:=h2;rw[h2];exact .gI ch h3
end Go.Ideal
namespace Go.Ideal
noncomputable def agX(k:Int)(l:ae Int):ae Int:=
 List.rec (motive:=λ_=>ae Int) [k] (λx l ih=>cond (leZ k x) (k::x::l) (x::ih)) l
noncomputable def agY(l:ae MapEntry):ak (ae Int):=
 List.rec (motive:=λ_=>ak (ae Int)) (some []) (λe _ ih=>match e.key,ih with
  | .int .i64 k,some r=>some (agX k r)
  |_,_=>none) l
noncomputable def XV(s f:Nat):Nat->ak (iI->IH->ak (ae ah×Nat×Nat)):=λg=>
 cond (Nat.beq g s) (some λq h=>match q.args with
  |[.func (.func f') ⟨[]⟩ ⟨[.pointer (some ⟨b,o,none⟩)]⟩]=>cond (Nat.beq f' f) (match h.qj b o 1 with
   |some [.map (some m)]=>match h.get m with
    |some (.map es _)=>match agY es with
     |some l=>some (nZ (λk=>.int .i64 k) l,jh l,1)
     |none=>none
    |_=>none
   |_=>none) none
  |_=>none) none
noncomputable def QU(a b:dL):Bool:=
 match a,b with
 | .cells x,.cells y=>qH 5 (.agg ⟨x⟩) (.agg ⟨y⟩)
 |_,_=>false
def agZ{a b:dL}(h:QU a b=true):a=b:=by
 unfold QU at h;split at h
 .have:=Cn _ _ _ h;injection this with this;injection this with this;rw[this]
 .cases h
noncomputable def Ja(l:ae (Nat×dL))(h:IH):Bool:=
 KY (λp=>match h.get p.1 with
  |some o=>QU p.2 o
  |none=>false) l
noncomputable def heapT:ae (Nat×dL)->T dL
 |[]=>.leaf
 |(i,o)::l=>(heapT l).set i (some o)
def QV:∀(l:ae (Nat×dL)) (i:Nat),(heapT l).get i=none\/∃o,(i,o)∈l/\(heapT l).get i=some o
 |[],i=>.inl rfl
 |(j,o)::l,i=>by
  simp only[heapT,T.nJ];by_cases e:i=j
  .subst e;right;exact⟨o,dD ..,s7⟩
  .rw[if_neg e];rcases QV l i with h|⟨o',h1,h2⟩
   .exact .inl h
   .exact .inr ⟨o',dB _ h1,h2⟩
variable{l:ae (Nat×dL)}{h:IH}
def XW(hh:Ja l h=true):∀i o,(i,o)∈l->h.get i=some o:=by
 intro i o hm;unfold Ja at hh;rw[Wt,jy]at hh;have:=hh _ hm;dsimp only at this;split at this
 .rename_i o' he;rw[he,agZ this]
 .cases this
noncomputable def known(l:ae (Nat×dL))(n:Nat)(fn:Nat)(args:ae ah)(v:ah):iI->IH->ak (ah×IH):=λq h=>
 match q with
 |⟨.func f,as,[],none⟩=>cond (Nat.beq f fn&&qH 5 (.tuple ⟨args⟩) (.tuple ⟨as⟩)&&Nat.ble n h.next&&Ja l h) (some (v,h)) none
 |_=>none
variable{n:Nat}{v:ah}
def ag0{P:Program}{fn:Nat}{args:ae ah}(hv:dG v=true)(hb:vC n args=true)(hl:l.all (λp=>Nat.blt p.1 n&&Ig n p.2)=true)
 (hgl:P.globals.size<=n) (hc:CALL P ⟨.func fn,args,[],none⟩ ⟨heapT l,n,n⟩ (λr pm h'=>pm=none/\r=.ok v/\h'.low=n))
 {q:iI} {h:IH} {v':ah} {h':IH} (hk:known l n fn args v q h=some (v',h')):CALL P q h (λr pm h2=>r=.ok v'/\pm=none/\h2=h'):=by
 unfold known at hk;split at hk
 .rename_i f as;cases hcd:(Nat.beq f fn&&qH 5 (.tuple ⟨args⟩) (.tuple ⟨as⟩)&&Nat.ble n h.next&&Ja l h)with
  |false=>rw[hcd]at hk;cases hk
  |true=>
   rw[hcd]at hk;simp only[cond,aN,dH]at hk;obtain⟨rfl,rfl⟩:=hk;simp only[eP]at hcd;obtain⟨⟨⟨h1,h2⟩,h3⟩,h4⟩:=hcd;have h1:=mU h1;subst h1;have h2:=Cn _ _ _ h2;injection h2 with h2;injection h2 with h2;subst h2;refine .memo ⟨heapT l,n,n⟩ v hv rfl ?_ (pq h3) hgl ?_ _ hc (λr pm h' h=>h) ⟨rfl,rfl,rfl⟩
   .show qm n (.func (.func f) ⟨args⟩ ⟨[]⟩)=true;simp[qm,vC,hb]
   .intro i o ho;rcases QV l i with e|⟨o',e1,e2⟩
    .exact absurd (ho.symm.trans e) s7
    .have:o'=o:=by have:=e2.symm.trans ho;simpa using this
     subst this;rw[jy]at hl;have:=hl _ e1;simp only[eP]at this;exact⟨FY this.1,XW h4 i o' e1,this.2⟩
 .cases hk
noncomputable def leaves(l:ae (Nat×dL))(n:Nat)(v:ah):BR:=λr pm h=>
 match pm with
 |some _=>false
 |none=>match r with
  | .ok v'=>qH 50 v v'&&Nat.beq h.next n&&Nat.beq h.low 0&&Ja l h
  | .gI _=>false
def LG{V:Env}(hV:Ef V){n:Nat}{q:iI}{h:IH}{K:BR}(hb:(FB V n).call q h K=true):CALL V.P q h (λr pm h=>K r pm h=true):=
 (QS hV n).call q h K hb
noncomputable def gives(v:ah)(n:Nat):BR:=λr pm h=>match pm with
 |some _=>false
 |none=>match r with
  | .ok v'=>qH 5 v v'&&Nat.beq h.low n
  | .gI _=>false
def XX{r:jB}{pm:ak FrameMode}(hg:gives v n r pm h=true):pm=none/\r=.ok v/\h.low=n:=by
 unfold gives at hg;split at hg
 .cases hg
 .split at hg
  .simp only[eP]at hg;exact⟨rfl,by rw[Cn _ _ _ hg.1],mU hg.2⟩
  .cases hg
