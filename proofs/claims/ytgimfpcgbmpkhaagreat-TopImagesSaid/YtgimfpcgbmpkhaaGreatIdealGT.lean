/- Part. -/
import Derived.Test.YtgimfpcgbmpkhaaGreatIdealET
set_option linter.all false
namespace Go.Ideal
def p9{a b:Nat}(h:Nat.beq a b=true):a=b:=uj h
def zx{α:Type}(l:ae α)(b:Bool):ae α:=
 match l with
 |[]=>[]
 |y::l=>match b with
  |true=>y::zx l false
  |false=>zx l true
def YA{α:Type}(l:ae α):∀b,(List.rec (motive:=λ_=>Bool->ae α) (λ_=>[]) (λy _ r b=>Bool.rec (motive:=λ_=>ae α) (r true) (y::r false) b) l:Bool->ae α) b=zx l b:=by
 induction l with
 |nil=>intro b;rfl
 |cons y l ih=>intro b;cases b
               .exact ih true
               .simp only[zx];grind
def M6{α:Type}:∀(l:ae α) (k:Nat),(zx l true)[k]? =l[2*k]?/\(zx l false)[k]? =l[2*k+1]?
 |[],k=>by simp[zx]
 |y::l,k=>by
  simp only[zx];refine⟨?_,?_⟩
  .cases k with
   |zero=>rfl
   |succ k=>rw[IP,(M6 l k).2,show 2*(k+1)=(2*k+1)+1 by omega,IP]
  .rw[(M6 l k).1,IP]
def R9{α:Type}:∀(f:Nat) (l:ae α) (i:Nat) (x:α),(F3 f l).get i=some x->l[i]? =some x
 |0,l,i,x,h=>by cases h
 |f+1,[],i,x,h=>by cases h
 |f+1,y::l,i,x,h=>by
  have e:F3 (f+1) (y::l)=.node (some y) (F3 f (zx l true)) (F3 f (zx l false)):=by
   rw[<- YA l true,<- YA l false];rfl
  rw[e]at h;cases i with
  |zero=>exact h
  |succ m=>
   rw[T.zn]at h;split at h
   .have:=R9 f _ _ _ h;rw[(M6 l _).1]at this
    grind
   .have:=R9 f _ _ _ h;rw[(M6 l _).2]at this
    grind
def Gp{p:ah->ah->Bool}(hp:∀x y,p x y=true->x=y):∀(a b:ae ah),
 (List.rec (motive:=λ_=>ae ah->Bool) (λb=>match b with|[]=>true|_=>false) (λx _ r b=>match b with|y::b=>cond (p x y) (r b) false|[]=>false) a:ae ah->Bool) b=true->a=b
 |[],[],_=>rfl
 |[],_::_,h=>by cases h
 |x::a,[],h=>by cases h
 |x::a,y::b,h=>by
  dsimp only at h;cases hc:p x y with
  |false=>rw[hc]at h;cases h
  |true=>rw[hc]at h;rw[hp x y hc,Gp hp a b h]
def Sa:∀(f:Nat) (v u:ah),wX f v u=true->v=u
 |0,v,u,h=>by cases h
 |f+1,v,u,h=>by
  have ih:=Sa f;change (match (generalizing:=false) v,u with
   | .bool a,.bool b=>a==b
   | .int .i64 a,.int .i64 b=>FU a b
   | .int j a,.int k b=>j==k&&a==b
   | .string a,.string b=>a.data.toList==b.data.toList
   | .pointer none,.pointer none=>true
   | .pointer (some ⟨i,o,none⟩),.pointer (some ⟨j,p,none⟩)=>Nat.beq i j&&Nat.beq o p
   | .slice none n c,.slice none m d=>Nat.beq n m&&Nat.beq c d
   | .slice (some ⟨i,o,some f⟩) n c,.slice (some ⟨j,p,some g⟩) m d=>Nat.beq i j&&Nat.beq o p&&Nat.beq f g&&Nat.beq n m&&Nat.beq c d
   | .map none,.map none=>true
   | .map (some i),.map (some j)=>Nat.beq i j
   | .nilIface,.nilIface=>true
   | .nilFunc,.nilFunc=>true
   | .iface t v,.iface s u=>Nat.beq t s&&wX f v u
   | .agg ⟨a⟩,.agg ⟨b⟩=>(List.rec (motive:=λ_=>ae ah->Bool) (λb=>match b with|[]=>true|_=>false) (λx _ r b=>match b with|y::b=>cond (wX f x y) (r b) false|[]=>false) a:ae ah->Bool) b
   | .tuple ⟨a⟩,.tuple ⟨b⟩=>(List.rec (motive:=λ_=>ae ah->Bool) (λb=>match b with|[]=>true|_=>false) (λx _ r b=>match b with|y::b=>cond (wX f x y) (r b) false|[]=>false) a:ae ah->Bool) b
   | .func f' ⟨a⟩ ⟨c⟩,.func g ⟨b⟩ ⟨d⟩=>f'==g&&
      (List.rec (motive:=λ_=>ae ah->Bool) (λb=>match b with|[]=>true|_=>false) (λx _ r b=>match b with|y::b=>cond (wX f x y) (r b) false|[]=>false) a:ae ah->Bool) b&&
      (List.rec (motive:=λ_=>ae ah->Bool) (λb=>match b with|[]=>true|_=>false) (λx _ r b=>match b with|y::b=>cond (wX f x y) (r b) false|[]=>false) c:ae ah->Bool) d
   |_,_=>false)=true at h
  split at h
  .rw[eq_of_beq h]
  .rw[Jn]at h;rw[eq_of_beq h]
  .grind
  .rename_i a b;have:=eq_of_beq h;cases a with|mk a=>cases b with|mk b=>simp only at this;congr 2;exact Array.toList_inj.mp this
  .rfl
  .simp only[gV]at h;rw[p9 h.1,p9 h.2]
  .simp only[gV]at h;rw[p9 h.1,p9 h.2]
  .simp only[gV]at h;rw[p9 h.1.1.1.1,p9 h.1.1.1.2,p9 h.1.1.2,p9 h.1.2,p9 h.2]
  .rfl
  .rw[p9 h]
  .rfl
  .rfl
  .simp only[gV]at h;rw[p9 h.1,ih _ _ h.2]
  .rw[Gp ih _ _ h]
  .rw[Gp ih _ _ h]
  .simp only[gV]at h;rw[eq_of_beq h.1.1,Gp ih _ _ h.1.2,Gp ih _ _ h.2]
  .cases h
def Sb{P:Program}{a:bE}{h:IH}:∀{re:ae jh},Jb P re a h=true->
 ∀r∈re,a.wants r.guard≠some false->∃u h2,r.op.run P a.eval h=some (u,h2)/\∀d,r.dst=some d->dZ a.tmps d=u
 |[],_,r,hr,_=>by cases hr
 |r0::re,hs,r,hr,hw=>by
  have e:Jb P (r0::re) a h=cond (match a.wants r0.guard with
   |some false=>true
   |_=>match r0.op.run P a.eval h with
    |some (u,_)=>match r0.dst with
     |some d=>wX 50 (dZ a.tmps d) u
     |none=>true
    |none=>false) (Jb P re a h) false:=rfl
  rw[e]at hs;cases hc:(match a.wants r0.guard with
   |some false=>true
   |_=>match r0.op.run P a.eval h with
    |some (u,_)=>match r0.dst with
     |some d=>wX 50 (dZ a.tmps d) u
     |none=>true
    |none=>false)with
  |false=>rw[hc]at hs;cases hs
  |true=>
   rw[hc]at hs;cases hr with
   |tail _ hr=>exact Sb hs r hr hw
   |head=>
    split at hc
    .grind
    .split at hc
     .rename_i u h2 hrun;refine⟨u,h2,hrun,λd hd=>?_⟩;rw[hd]at hc;exact Sa _ _ _ hc
     .cases hc
def M7{P:Program}{c:dD}{a:bE}{h:IH}{K:KO}(e:EV P c a h K):∀K':KO,(∀o a h,K o a h->K' o a h)->EV P c a h K':=by
 refine EV.rec
  (motive_2:=λds l a h K _=>∀K':KO,(∀o a h,K o a h->K' o a h)->aO P ds l a h K')
  (motive_3:=λ_ _ _ _ _ _ _=>True) (motive_4:=λ_ _ _ _=>True)
  ?_ ?_ ?_ ?_ ?_ ?_ ?_ ?_ ?_ ?_ ?_ ?_ ?_ ?_ ?_ ?_ ?_ ?_ ?_ ?_ ?_ ?_ ?_ ?_ ?_ ?_ ?_ ?_ ?_ ?_ ?_ ?_ e
 .intro a h K hk K' hK;exact .skip (hK _ _ _ hk)
 .intro ds l a h K ho i K' hK;exact .ops (i K' hK)
 .intro x y a h K M h1 h2 h3 i1 i2 K' hK;exact .seq M h1 (by grind) (by grind)
 .intro c x y a h K hc h1 i1 K' hK;exact .RU hc (i1 K' hK)
 .intro c x y a h K hc h1 i1 K' hK;exact .RV hc (i1 K' hK)
 .intro id c a h K M h1 h2 i1 K' hK;exact .block M h1 (by grind)
 .intro c a h K M h1 h2 h3 i1 i2 K' hK;exact .loop M h1 (by grind) (by grind)
 .intro c a h K h1 i1 K' hK;exact .scope (i1 K' hK)
 .intro id a h K hk K' hK;exact .exit (hK _ _ _ hk)
 .intro a h K hk K' hK;exact .ret (hK _ _ _ hk)
 .intro f ps assign body a h K fn first captured hf a1 h1 r hr M hc hok jM i1 K' hK
  exact .rangeFunc fn first captured hf a1 h1 r hr M hc (by grind) (by grind)
 .intro c a h K a0 hw hn h1 i1 K' hK;exact .weaken a0 hw hn (i1 K' hK)
 .intro ds a h K hk K' hK;exact .nil (hK _ _ _ hk)
 .intro ds s l a h K hw h1 i1 K' hK;exact .skip hw (i1 K' hK)
 .intro ds s l a h K hw v h' hr hs h1 i1 K' hK;exact .nL hw v h' hr hs (i1 K' hK)
 .intro ds s l a h K hw q hq M hc hs hok jM i1 i2 K' hK;exact .call hw q hq M hc hs (by grind) (by grind)
 .intro ds s l a h K hw ho hre hm hro h1 i1 K' hK;exact .X8 hw ho hre hm hro (i1 K' hK)
 .intro ds s l a h K hw ho hre m hm hro h1 i1 K' hK;exact .recoverD hw ho hre m hm hro (i1 K' hK)
 .intro ds s l a h K hw x ho t v hx hk K' hK;exact .panic hw x ho t v hx (hK _ _ _ hk)
 .intro ds s l a h K hw f args ho hre hro fn first captured hf h1 i1 K' hK;exact .defer hw f args ho hre hro fn first captured hf (i1 K' hK)
 .intro ds s l a h K hw x ho hre alts ha h1 i1 K' hK;exact .next hw x ho hre alts ha (λvh hv=>i1 vh hv K' hK)
 all_goals intros;trivial
structure YB(V:Env)(E:Ev):Prop where
 code:∀c a h K,E.code c a h K=true->EV V.P c a h (λo a h=>K o a h=true)
 call:∀q h K,E.call q h K=true->CALL V.P q h (λr pm h=>K r pm h=true)
structure JK(V:Env):Prop where
 memo:∀f q h v h',(V.memo f).bind (λg=>g q h)=some (v,h')->q.pm=none->(∃args,target V.P q=some (f,args))->CALL V.P q h (λr pm h2=>r=.ok v/\pm=none/\h2=h')
 fn:∀f cf,V.F f=some cf->∃fn,V.P.funcs[f]? =some fn/\xU V.P fn=some cf
def Ep{a b:Bool}(h:cond a b false=true):a=true/\b=true:=by
 grind
section
variable {V:Env} {E:Ev} (hE:YB V E)
include hE
variable{h:IH}{s:bV}{ds:ae Tmp}{l:ae bV}{a:bE}{next:bE->IH->Bool}{k:BO}
def YC(hw:a.wants s.s.guard=some true)
 (hn:∀a h,next a h=true->aO V.P ds l a h (λo a h=>k o a h=true)) (hb:MC V.P E ds s a h next k=true):aO V.P ds (s::l) a h (λo a h=>k o a h=true):=by
 unfold MC at hb;cases hq:Ao s.s.op a.eval with
 |none=>rw[hq]at hb;cases hb
 |some q=>
  rw[hq]at hb;have hc:=hE.call _ _ _ hb;refine .call hw q hq _ hc ?_ ?_ ?_
  .intro v pm h' hm;exact Sb (Ep hm).1
  .grind
  grind
omit hE in
def Sc{b:Bool}(h:Jc s b=true):s.re=[]/\b=true:=by
 unfold Jc at h
 grind
omit hE in
def ahN(hw:a.wants s.s.guard=some true)
 (hn:∀a h,next a h=true->aO V.P ds l a h (λo a h=>k o a h=true)) (hb:QZ V.P s a h next=true):aO V.P ds (s::l) a h (λo a h=>k o a h=true):=by
 unfold QZ at hb;split at hb
 .rename_i v h' hr;split at hb
  .exact .nL hw v h' hr (by grind) (hn _ _ hb)
  .exact .nL hw v h' hr (Sb (Ep hb).1) (hn _ _ (Ep hb).2)
 .cases hb
def ahO(hw:a.wants s.s.guard=some true)
 (hn:∀a h,next a h=true->aO V.P ds l a h (λo a h=>k o a h=true)) (hb:ME V.P E ds s a h next k=true):aO V.P ds (s::l) a h (λo a h=>k o a h=true):=by
 unfold ME at hb;split at hb
 .exact YC hE hw hn hb
 .exact YC hE hw hn hb
 .rename_i ho;obtain⟨hre,hb⟩:=Sc hb;split at hb
  .cases hb
  .rename_i hro;split at hb
   .rename_i hm;exact .X8 hw ho hre hm hro (hn _ _ hb)
   .rename_i m hm;exact .recoverD hw ho hre m hm hro (hn _ _ hb)
 .rename_i x ho;split at hb
  .rename_i t v hx;exact .panic hw x ho t v hx hb
  .cases hb
 .rename_i f args ho;obtain⟨hre,hb⟩:=Sc hb;split at hb
  .cases hb
  .rename_i hro;split at hb
   .rename_i fn first captured hf
    exact .defer hw f args ho hre hro fn first captured hf (hn _ _ hb)
   .cases hb
 .rename_i x ho;obtain⟨hre,hb⟩:=Sc hb;split at hb
  .rename_i alts ha;refine .next hw x ho hre alts ha λvh hv=>?_
   rw[ae2,jU]at hb;exact hn _ _ (hb vh hv)
  .cases hb
 .exact ahN hw hn hb
def Sd{ds:ae Tmp}{k:BO}:∀{l:ae bV} {a:bE} {h:IH},Jd V.P E ds l a h k=true->aO V.P ds l a h (λo a h=>k o a h=true)
 |[],a,h,hb=>.nil hb
 |s::l,a,h,hb=>by
  have e:Jd V.P E ds (s::l) a h k=(match a.wants s.s.guard with
   |some true=>ME V.P E ds s a h (λa h=>Jd V.P E ds l a h k) k
   |some false=>Jd V.P E ds l (a.put s.s.dst xR) h k
   |none=>false):=rfl
  rw[e]at hb;split at hb
  .rename_i hw;exact ahO hE hw (λa h h1=>Sd h1) hb
  .rename_i hw;exact .skip hw (Sd hb)
  .cases hb
def M8{cf:iJ}{ts:T ah}:∀{ds:ae Deferred} {m:FrameMode} {h:IH} {k:jL->IH->Bool},Ec E cf ts ds m h k=true->LEAVE V.P cf ts ds m h (λr h=>k r h=true)
 |[],m,h,k,hb=>by
  have e:Ec E cf ts [] m h k=(match (generalizing:=false) m with
   | .returning=>match uA cf.results ts h with
     |some v=>k (.ok v) h
     |none=>false
   | .panicking ch=>k (.iy ch) h
   | .run=>false):=rfl
  rw[e]at hb;split at hb
  .split at hb
   .rename_i v hv;exact .ret v hv hb
   .cases hb
  .rename_i ch;exact .iy ch hb
  .cases hb
 |d::ds,m,h,k,hb=>by
  have e:Ec E cf ts (d::ds) m h k=(match (generalizing:=false) m with
   | .run=>false
   |m=>match (generalizing:=false) d with
    |{target:=.collected r,.. }=>match h.get r with
     |some (.jJ true)=>Ec E cf ts ds m (h.set r (.jJ false)) k
     |_=>false
    |{target:=.fn fn ⟨captured⟩,args:=⟨args⟩}=>E.call ⟨fn,args,captured,some m⟩ h λr pm h=>match pm with
     |none=>false
     |some m'=>match r with
      | .ok _=>Ec E cf ts ds (Ci m') h k
      | .iy ch=>Ec E cf ts ds (FY m' ch) h k
    |_=>false):=rfl
  rw[e]at hb;split at hb
  .cases hb
  .rename_i hm;have hm':m≠.run:=by intro e;exact hm e
   split at hb
   .rename_i r args;split at hb
    .rename_i hr;exact .coll hm' r hr (M8 hb)
    .cases hb
   .have hc:=hE.call _ _ _ hb;refine .call hm' _ hc ?_ ?_ ?_
    .grind
    .intro v m' h' hM;exact M8 hM
    .intro ch m' h' hM;exact M8 hM
   .cases hb
variable (hV:JK V)
include hV
variable{q:ji}{args:ae ah}
def YD{f:gy}{k:BR}(ht:target V.P q=some (f,args))(hb:Ed V E f args q.pm h k=true):CALL V.P q h (λr pm h=>k r pm h=true):=by
 unfold Ed at hb;split at hb
 .cases hb
 .rename_i cf hcf;obtain⟨fn,hf,hfn⟩:=hV.fn f cf hcf;have hc:=hE.code _ _ _ _ hb;refine .enter f args ht fn hf cf hfn _ hc ?_ ?_
  .grind
  .intro o a' h' m hM e;rw[e]at hM;exact M8 hE hM
omit hV in
def ahP{l:Nat}{k:BR}(hq:q.fn=.yield l)(hpm:q.pm=none)(hb:Q0 E l q.args h k=true):CALL V.P q h (λr pm h=>k r pm h=true):=by
 unfold Q0 at hb;split at hb
 .rename_i r hr;obtain⟨ha,hb⟩:=Ep hb;have ha:=p9 ha;rw[xX,xX]at ha;have hc:=hE.code _ _ _ _ hb;refine .round l hq hpm r hr ha _ hc ?_ ?_
  .grind
  .intro a' h' r1 hM hr1;simp only[hr1]at hM;split at hM
   .have hc2:=hE.code _ _ _ _ hM;refine M7 hc2 _ ?_;intro o a2 h2 hK;unfold Xo at hK
    grind
   .cases hM
 .cases hb
omit hE in
def ahQ{k:BR}{f:Nat}{other:Bool}(ht:target V.P q=some (f,args))(ho:other=true->CALL V.P q h (λr pm h=>k r pm h=true))
 (hb:Q3 V f q h k other=true):CALL V.P q h (λr pm h=>k r pm h=true):=by
 unfold Q3 at hb;split at hb
 .exact ho hb
 .rename_i g hg;split at hb
  .exact ho hb
  .rename_i hpm;split at hb
   .rename_i v h' hv;refine .vQ _ (hV.memo f q h v h' (by rw[hg];exact hv) hpm ⟨args,ht⟩) ?_
    grind
   .exact ho hb
def ahR(q:ji)(h:IH)(k:BR)(hb:Q4 V E q h k=true):CALL V.P q h (λr pm h=>k r pm h=true):=by
 unfold Q4 at hb;split at hb
 .rename_i l hq;split at hb
  .rename_i hpm;exact ahP hE hq hpm hb
  .cases hb
 .split at hb
  .cases hb
  .rename_i f' args ht;refine ahQ hV ht (λhb=>?_) hb;split at hb
   .exact YD hE hV ht hb
   .rename_i g hg;split at hb
    .cases hb
    .rename_i hpm;have hent:∀h k,Ed V E f' args none h k=true->CALL V.P q h (λr pm h=>k r pm h=true):=by
      intro h k hh;exact YD hE hV ht (by rw[hpm];exact hh)
     split at hb
     .grind
     .grind
     .rename_i cs n f hne hgq;obtain⟨h1,hb⟩:=Ep hb;obtain⟨h2,hb⟩:=Ep hb;simp only[gV,IV]at h1;have hne':cs≠[]:=by
       grind
      refine .cut cs n f h1.1 hne' ?_ _ (hent _ _ h2) hpm ?_ hb
      .rcases h1.2 with e|e
       .exact .inl (p9 e)
       .right;have:=p9 e;rw[xX]at this;exact this
      .intro r pm h' hM;unfold Xp at hM;split at hM
       .cases hM
       .split at hM
        .rename_i i o f'' n' c;obtain⟨h3,h4⟩:=Ep hM;simp only[gV,IV,Md]at h3;obtain⟨⟨⟨⟨e1,e2⟩,e3⟩,e4⟩,e5⟩:=h3;have e1:=p9 e1;have e2:=p9 e2;subst e1;subst e2;refine⟨rfl,p9 e5,i,o,c,rfl,pQ e4,?_,?_⟩
         .intro e;rcases e3 with e3|e3
          .subst e;cases e3
          .exact p9 e3
         .split at h4
          .rename_i l hl;rw[Gp (Sa 5) _ _ h4]at hl;rw[xX]at hl;rw[hl]
          .cases h4
        .cases hM
omit hV in
def ahS(c:dD)(a:bE)(h:IH)(k:BO)(hb:MF V E c a h k=true):EV V.P c a h (λo a h=>k o a h=true):=by
 cases c with
 |skip=>exact .skip hb
 |ops ds l=>exact .ops (Sd hE hb)
 |seq x y=>
  refine .seq _ (hE.code _ _ _ _ hb) ?_ ?_
  .intro a' h' hm;exact hE.code _ _ _ _ hm
  .exact lP
 |cond c x y=>
  simp only[MF]at hb;split at hb
  .rename_i hc;exact .RU hc (hE.code _ _ _ _ hb)
  .rename_i hc;exact .RV hc (hE.code _ _ _ _ hb)
  .cases hb
 |block id c=>exact .block _ (hE.code _ _ _ _ hb) (λo a' h' hm=>hm)
 |loop c=>
  refine .loop _ (hE.code _ _ _ _ hb) ?_ ?_
  .intro a' h' hm;exact hE.code _ _ _ _ hm
  .exact lP
 |scope c=>exact .scope (hE.code _ _ _ _ hb)
 |exit id=>exact .exit hb
 |ret=>exact .ret hb
 |fail=>cases hb
 |rangeFunc f ps assign body=>
  simp only[MF]at hb;split at hb
  .rename_i fn first captured hf
   split at hb
   .rename_i hro;refine .rangeFunc fn first captured hf _ _ h.next (.inl ⟨hro,rfl,rfl,rfl⟩) _ (hE.call _ _ _ hb) ?_ ?_
    .exact iS
    .intro ch pm h2 hm;exact hm
   .rename_i l0 hro;split at hb
    .rename_i r0 hr0;refine .rangeFunc fn first captured hf _ _ r0.defers (.inr ⟨l0,r0,hro,rfl,rfl,hr0,rfl⟩) _ (hE.call _ _ _ hb) ?_ ?_
     .exact iS
     .intro ch pm h2 hm;exact hm
    .cases hb
  .cases hb
end
def Sg{V:Env}(hV:JK V):∀n,YB V (Q5 V n)
 |0=>⟨(λ_ _ _ _ h=>by cases h),(λ_ _ _ h=>by cases h)⟩
 |n+1=>⟨λc a h k hb=>ahS (Sg hV n) c a h k hb,λq h k hb=>ahR (Sg hV n) hV q h k hb⟩
def M9(P:Program)(cut memo)(hm:∀f q h v h',(memo f).bind (λg=>g q h)=some (v,h')->q.pm=none->(∃args,target P q=some (f,args))->CALL P q h (λr pm h2=>r=.ok v/\pm=none/\h2=h')):JK (vN P cut memo) where
 memo:=hm
 fn f cf h:=by
  have e:(vN P cut memo).F f=(match (F3 100000 P.funcs.toList).get f with
   |some fn=>xU P fn
   |none=>none):=rfl
  rw[e]at h;split at h
  .rename_i fn hf;refine⟨fn,?_,h⟩;have:=R9 _ _ _ _ hf;rw[Array.getElem?_toList]at this;exact this
  .cases h
variable {P:Program}
def lk(l:qr)(k:Nat):ah:=
 match l with
 |[]=>eY
 |(j,v)::l=>cond (Nat.beq k j) v (lk l k)
noncomputable def iZ:qr->T ah
 |[]=>.leaf
 |(j,v)::l=>(iZ l).set j (some v)
def yu:∀(l:qr) (k:Nat),dZ (iZ l) k=lk l k
 |[],k=>rfl
 |(j,v)::l,k=>by
  have ih:=yu l k;unfold dZ at ih⊢;simp only[iZ,lk,T.og];by_cases e:k=j
  .subst e;simp
  .have:Nat.beq k j=false:=by
    cases hb:Nat.beq k j with
    |false=>rfl
    |true=>exact absurd (uj hb) e
   grind
noncomputable def act(n:Nat)(l:qr)(D:ae Deferred)(pm:az FrameMode)(ro:az Nat):bE:=⟨n,iZ l,D,pm,ro⟩
def ev(l:qr)(x:aB):ah:=
 match x with
 | .tmp t=>lk l t
 | .const v=>v
 | .global g=>.pointer (some ⟨g,0,none⟩)
 | .func f=>.func (.func f) #[] #[]
section
variable {n:Nat} {l:qr} {D:ae Deferred} {pm:az FrameMode} {ro:az Nat}
def qa:(act n l D pm ro).eval=ev l:=by
 funext x
 cases x with
 |tmp t=>exact yu l t
 |_=>rfl
def sZ{d:Nat}{v:ah}(h:Nat.blt d n=true):(act n l D pm ro).put (some d) v=act n ((d,v)::l) D pm ro:=by
 simp only[act,bE.put,bE.set,h];rfl
def Na(t:Nat)(want:Bool):(act n l D pm ro).wants (some (t,want))=match lk l t with
 | .bool b=>some (cond want b (!b))
 | .chan _=>some false
 |_=>none:=by
 unfold bE.wants;simp only[act,yu];cases lk l t<;>rfl
def weaker(a0 a:bE):Prop:=(∀i,dZ a0.tmps i=eY\/dZ a0.tmps i=dZ a.tmps i)/\a0.n=a.n/\a0.defers=a.defers/\a0.pm=a.pm/\a0.ro=a.ro
def sub:qr->qr->Prop
 |[],_=>True
 |(k,v)::l0,l=>lk l k=v/\sub l0 l
def YE:∀{l0 l:qr},sub l0 l->∀i,lk l0 i=eY\/lk l0 i=lk l i
 |[],l,_,i=>.inl rfl
 |(k,v)::l0,l,h,i=>by
  simp only[lk];cases hb:Nat.beq i k with
  |true=>right;rw[uj hb];exact h.1.symm
  |false=>exact YE h.2 i
def Nc{l0:qr}(h:sub l0 l):weaker (act n l0 D pm ro) (act n l D pm ro):=
 ⟨λi=>by simp only[act,yu];exact YE h i,rfl,rfl,rfl,rfl⟩
def Cu(P:Program)(y:dD)(K:KO):KO:=λo a h=>match o with
 | .normal=>EV P y a h K
 |o=>K o a h
variable{K:KO}{h:IH}{a:bE}{x y:dD}
def ahT(h1:EV P x a h (Cu P y K)):EV P (.seq x y) a h K:=
 .seq _ h1 (λ_ _ hm=>hm) (λo a' h' hm hn=>by
  exact mS)
def AC(id:Nat)(K:KO):KO:=λo a h=>K (inBlock id o) a h
variable{c:dD}
def ahU{id:Nat}(h1:EV P c a h (AC id K)):EV P (.block id c) a h K:=.block _ h1 (λ_ _ _ hm=>hm)
def JL{c:aB}(b:Bool)(hc:ev l c=.bool b)(h1:b=true->EV P x (act n l D pm ro) h K)(h2:b=false->EV P y (act n l D pm ro) h K):EV P (.cond c x y) (act n l D pm ro) h K:=by
 cases b with
 |true=>exact .RU (by rw[qa];exact hc) (h1 rfl)
 |false=>exact .RV (by rw[qa];exact hc) (h2 rfl)
def vT(I:Nat->bE->IH->Prop)(m:Nat)(K:KO):KO:=λo a h=>match o with
 | .normal=>∃m' a0,m'<m/\weaker a0 a/\I m' a0 h
 |o=>K o a h
def YF(I:Nat->bE->IH->Prop)(hb:∀m a h,I m a h->EV P c a h (vT I m K)):∀m a h,I m a h->EV P (.loop c) a h K:=by
 intro m;induction m using Nat.strongRecOn with
 |ind m ih=>
  intro a h hI;refine .loop _ (hb m a h hI) ?_ ?_
  .rintro a' h' ⟨m',a0,hlt,hw,hI'⟩;exact .weaken a0 hw.1 hw.2 (ih m' hlt a0 h' hI')
  .intro o a' h' hm hn;exact mS
def Si{a0:bE}(hw:weaker a0 a)(h1:EV P c a0 h K):EV P c a h K:=.weaken a0 hw.1 hw.2 h1
section
variable {ds:ae Tmp} {rest:ae bV} {h:IH} {K:KO}
variable{d:Nat}{op:aR}
def step{v:ah}{h':IH}(hn:Nat.blt d n=true)(hr:op.run P (ev l) h=some (v,h'))
 (next:aO P ds rest (act n ((d,v)::l) D pm ro) h' K):aO P ds (⟨⟨some d,none,op⟩,[]⟩::rest) (act n l D pm ro) h K:=
 .nL rfl v h' we xp xF
def stepG{t:Nat}{want:Bool}(hn:Nat.blt d n=true)(b:Bool)(ht:lk l t=.bool b)
 (h1:b=want->∃v h',op.run P (ev l) h=some (v,h')/\aO P ds rest (act n ((d,v)::l) D pm ro) h' K)
 (h2:b≠want->aO P ds rest (act n ((d,xR)::l) D pm ro) h K):aO P ds (⟨⟨some d,some (t,want),op⟩,[]⟩::rest) (act n l D pm ro) h K:=by
 by_cases e:b=want
 .obtain⟨v,h',hr,hnx⟩:=h1 e;refine .nL ?_ v h' we xp (by rw[sZ hn];exact hnx);rw[Na,ht,e];cases want<;>rfl
 .refine .skip ?_ (by rw[sZ hn];exact h2 e);rw[Na];grind
end
end
def zy(cf:iJ)(K:KR):KO:=λo a h=>
 match o with
 | .normal| .ret=>∃v,uA cf.results a.tmps h=some v/\YG a/\K (.ok v) a.pm h
 | .panic ch=>YG a/\K (.iy ch) a.pm h
 | .exit _=>False
where YG (a:bE):Prop:=a.defers=[]
def ahV{f:gy}{args cap:ae ah}{pm:az FrameMode}{h:IH}{K:KR}(fn:Func)(hf:P.funcs[f]? =some fn)(cf:iJ)(hcf:xU P fn=some cf)
 (hb:EV P cf.body (Ea cf.ntmps (args++cap) pm) h (zy cf K)):CALL P ⟨.func f,args,cap,pm⟩ h K:=by
 refine .enter f (args++cap) (by simp only[target,kR]) fn hf cf hcf _ hb ?_ ?_
 .intro o a h hm e;cases o with
  |exit _=>exact hm
  |_=>cases e
 .intro o a h' m hm he;cases o with
  |exit _=>cases hm
  |normal=>
   exact qq
  |ret=>
   exact qq
  |panic ch=>
   obtain⟨h2,h3⟩:=hm;cases he;rw[h2];exact .iy ch h3
end Go.Ideal
namespace Go.Ideal
noncomputable def ahW(a b:fw):Bool:=
 match a,b with
 | .cells x,.cells y=>wX 5 (.agg ⟨x⟩) (.agg ⟨y⟩)
 |_,_=>false
noncomputable def ahX(l:ae (Nat×fw))(h:IH):Bool:=
 Mo (λp=>match h.get p.1 with
  |some o=>ahW p.2 o
  |none=>false) l
noncomputable def known(l:ae (Nat×fw))(n:Nat)(fn:Nat)(args:ae ah)(v:ah):ji->IH->az (ah×IH):=λq h=>
 match q with
 |⟨.func f,as,[],none⟩=>cond (Nat.beq f fn&&wX 5 (.tuple ⟨args⟩) (.tuple ⟨as⟩)&&Nat.ble n h.next&&ahX l h) (some (v,h)) none
 |_=>none
def ahY{V:Env}(hV:JK V){n:Nat}{q:ji}{h:IH}{K:BR}(hb:(Q5 V n).call q h K=true):CALL V.P q h (λr pm h=>K r pm h=true):=
 (Sg hV n).call q h K hb
