/- Part. -/
import Derived.Test.YtignbinlipkmfaaGreatDoorIdealER
set_option linter.all false
namespace Go.Ideal
def jR{a b:Nat}(h:Nat.beq a b=true):a=b:=tL h
def ze{α:Type}(l:ae α)(b:Bool):ae α:=
 match l with
 |[]=>[]
 |y::l=>match b with
  |true=>y::ze l false
  |false=>ze l true
def Yi{α:Type}(l:ae α):∀b,(List.rec (motive:=λ_=>Bool->ae α) (λ_=>[]) (λy _ r b=>Bool.rec (motive:=λ_=>ae α) (r true) (y::r false) b) l:Bool->ae α) b=ze l b:=by
 induction l with
 |nil=>intro b;rfl
 |cons y l ih=>intro b;cases b
               .exact ih true
               .simp only[ze];grind
def NH{α:Type}:∀(l:ae α) (k:Nat),(ze l true)[k]? =l[2*k]?/\(ze l false)[k]? =l[2*k+1]?
 |[],k=>by simp[ze]
 |y::l,k=>by
  simp only[ze];refine⟨?_,?_⟩
  .cases k with
   |zero=>rfl
   |succ k=>rw[Ia,(NH l k).2,show 2*(k+1)=(2*k+1)+1 by omega,Ia]
  .rw[(NH l k).1,Ia]
def Sn{α:Type}:∀(f:Nat) (l:ae α) (i:Nat) (x:α),(FL f l).get i=some x->l[i]? =some x
 |0,l,i,x,h=>by cases h
 |f+1,[],i,x,h=>by cases h
 |f+1,y::l,i,x,h=>by
  have e:FL (f+1) (y::l)=.node (some y) (FL f (ze l true)) (FL f (ze l false)):=by
   rw[<- Yi l true,<- Yi l false];rfl
  rw[e]at h;cases i with
  |zero=>exact h
  |succ m=>
   rw[T.y7]at h;split at h
   .have:=Sn f _ _ _ h;rw[(NH l _).1]at this
    grind
   .have:=Sn f _ _ _ h;rw[(NH l _).2]at this
    grind
def Gb{p:ah->ah->Bool}(hp:∀x y,p x y=true->x=y):∀(a b:ae ah),
 (List.rec (motive:=λ_=>ae ah->Bool) (λb=>match b with|[]=>true|_=>false) (λx _ r b=>match b with|y::b=>cond (p x y) (r b) false|[]=>false) a:ae ah->Bool) b=true->a=b
 |[],[],_=>rfl
 |[],_::_,h=>by cases h
 |x::a,[],h=>by cases h
 |x::a,y::b,h=>by
  dsimp only at h;cases hc:p x y with
  |false=>rw[hc]at h;cases h
  |true=>rw[hc]at h;rw[hp x y hc,Gb hp a b h]
def zf:∀(f:Nat) (v u:ah),oW f v u=true->v=u
 |0,v,u,h=>by cases h
 |f+1,v,u,h=>by
  have ih:=zf f;change (match (generalizing:=false) v,u with
   | .bool a,.bool b=>a==b
   | .int .i64 a,.int .i64 b=>FD a b
   | .int j a,.int k b=>j==k&&a==b
   | .string a,.string b=>a.data.toList==b.data.toList
   | .pointer none,.pointer none=>true
   | .pointer (some ⟨i,o,none⟩),.pointer (some ⟨j,p,none⟩)=>Nat.beq i j&&Nat.beq o p
   | .slice none n c,.slice none m d=>Nat.beq n m&&Nat.beq c d
   | .slice (some ⟨i,o,some f⟩) n c,.slice (some ⟨j,p,some g⟩) m d=>Nat.beq i j&&Nat.beq o p&&Nat.beq f g&&Nat.beq n m&&Nat.beq c d
   | .map none,.map none=>true
   | .map (some i),.map (some j)=>Nat.beq i j
   | .nilIface,.nilIface=>true
   | .nilFunc,.nilFunc=>true
   | .iface t v,.iface s u=>Nat.beq t s&&oW f v u
   | .agg ⟨a⟩,.agg ⟨b⟩=>(List.rec (motive:=λ_=>ae ah->Bool) (λb=>match b with|[]=>true|_=>false) (λx _ r b=>match b with|y::b=>cond (oW f x y) (r b) false|[]=>false) a:ae ah->Bool) b
   | .tuple ⟨a⟩,.tuple ⟨b⟩=>(List.rec (motive:=λ_=>ae ah->Bool) (λb=>match b with|[]=>true|_=>false) (λx _ r b=>match b with|y::b=>cond (oW f x y) (r b) false|[]=>false) a:ae ah->Bool) b
   | .func f' ⟨a⟩ ⟨c⟩,.func g ⟨b⟩ ⟨d⟩=>f'==g&&
      (List.rec (motive:=λ_=>ae ah->Bool) (λb=>match b with|[]=>true|_=>false) (λx _ r b=>match b with|y::b=>cond (oW f x y) (r b) false|[]=>false) a:ae ah->Bool) b&&
      (List.rec (motive:=λ_=>ae ah->Bool) (λb=>match b with|[]=>true|_=>false) (λx _ r b=>match b with|y::b=>cond (oW f x y) (r b) false|[]=>false) c:ae ah->Bool) d
   |_,_=>false)=true at h
  split at h
  .rw[eq_of_beq h]
  .rw[IP]at h;rw[eq_of_beq h]
  .grind
  .rename_i a b;have:=eq_of_beq h;cases a with|mk a=>cases b with|mk b=>simp only at this;congr 2;exact Array.toList_inj.mp this
  .rfl
  .simp only[eU]at h;rw[jR h.1,jR h.2]
  .simp only[eU]at h;rw[jR h.1,jR h.2]
  .simp only[eU]at h;rw[jR h.1.1.1.1,jR h.1.1.1.2,jR h.1.1.2,jR h.1.2,jR h.2]
  .rfl
  .rw[jR h]
  .rfl
  .rfl
  .simp only[eU]at h;rw[jR h.1,ih _ _ h.2]
  .rw[Gb ih _ _ h]
  .rw[Gb ih _ _ h]
  .simp only[eU]at h;rw[eq_of_beq h.1.1,Gb ih _ _ h.1.2,Gb ih _ _ h.2]
  .cases h
def Sq{P:Program}{a:bB}{h:IH}:∀{re:ae iY},Iy P re a h=true->
 ∀r∈re,a.wants r.guard≠some false->∃u h2,r.op.run P a.eval h=some (u,h2)/\∀d,r.dst=some d->dU a.tmps d=u
 |[],_,r,hr,_=>by cases hr
 |r0::re,hs,r,hr,hw=>by
  have e:Iy P (r0::re) a h=cond (match a.wants r0.guard with
   |some false=>true
   |_=>match r0.op.run P a.eval h with
    |some (u,_)=>match r0.dst with
     |some d=>oW 50 (dU a.tmps d) u
     |none=>true
    |none=>false) (Iy P re a h) false:=rfl
  rw[e]at hs;cases hc:(match a.wants r0.guard with
   |some false=>true
   |_=>match r0.op.run P a.eval h with
    |some (u,_)=>match r0.dst with
     |some d=>oW 50 (dU a.tmps d) u
     |none=>true
    |none=>false)with
  |false=>rw[hc]at hs;cases hs
  |true=>
   rw[hc]at hs;cases hr with
   |tail _ hr=>exact Sq hs r hr hw
   |head=>
    split at hc
    .grind
    .split at hc
     .rename_i u h2 hrun;refine⟨u,h2,hrun,λd hd=>?_⟩;rw[hd]at hc;exact zf _ _ _ hc
     .cases hc
def Sr{P:Program}{c:dH}{a:bB}{h:IH}{K:KO}(e:EV P c a h K):∀K':KO,(∀o a h,K o a h->K' o a h)->EV P c a h K':=by
 refine EV.rec
  (motive_2:=λds l a h K _=>∀K':KO,(∀o a h,K o a h->K' o a h)->aJ P ds l a h K')
  (motive_3:=λ_ _ _ _ _ _ _=>True) (motive_4:=λ_ _ _ _=>True)
  ?_ ?_ ?_ ?_ ?_ ?_ ?_ ?_ ?_ ?_ ?_ ?_ ?_ ?_ ?_ ?_ ?_ ?_ ?_ ?_ ?_ ?_ ?_ ?_ ?_ ?_ ?_ ?_ ?_ ?_ ?_ ?_ e
 .intro a h K hk K' hK;exact .skip (hK _ _ _ hk)
 .intro ds l a h K ho i K' hK;exact .ops (i K' hK)
 .intro x y a h K M h1 h2 h3 i1 i2 K' hK;exact .seq M h1 (by grind) (by grind)
 .intro c x y a h K hc h1 i1 K' hK;exact .R9 hc (i1 K' hK)
 .intro c x y a h K hc h1 i1 K' hK;exact .Sa hc (i1 K' hK)
 .intro id c a h K M h1 h2 i1 K' hK;exact .block M h1 (by grind)
 .intro c a h K M h1 h2 h3 i1 i2 K' hK;exact .loop M h1 (by grind) (by grind)
 .intro c a h K h1 i1 K' hK;exact .scope (i1 K' hK)
 .intro id a h K hk K' hK;exact .exit (hK _ _ _ hk)
 .intro a h K hk K' hK;exact .ret (hK _ _ _ hk)
 .intro f ps assign body a h K fn first captured hf a1 h1 r hr M hc hok lI i1 K' hK
  exact .rangeFunc fn first captured hf a1 h1 r hr M hc (by grind) (by grind)
 .intro c a h K a0 hw hn h1 i1 K' hK;exact .weaken a0 hw hn (i1 K' hK)
 .intro ds a h K hk K' hK;exact .nil (hK _ _ _ hk)
 .intro ds s l a h K hw h1 i1 K' hK;exact .skip hw (i1 K' hK)
 .intro ds s l a h K hw v h' hr hs h1 i1 K' hK;exact .nC hw v h' hr hs (i1 K' hK)
 .intro ds s l a h K hw q hq M hc hs hok lI i1 i2 K' hK;exact .call hw q hq M hc hs (by grind) (by grind)
 .intro ds s l a h K hw ho hre hm hro h1 i1 K' hK;exact .XR hw ho hre hm hro (i1 K' hK)
 .intro ds s l a h K hw ho hre m hm hro h1 i1 K' hK;exact .recoverD hw ho hre m hm hro (i1 K' hK)
 .intro ds s l a h K hw x ho t v hx hk K' hK;exact .panic hw x ho t v hx (hK _ _ _ hk)
 .intro ds s l a h K hw f args ho hre hro fn first captured hf h1 i1 K' hK;exact .defer hw f args ho hre hro fn first captured hf (i1 K' hK)
 .intro ds s l a h K hw x ho hre alts ha h1 i1 K' hK;exact .next hw x ho hre alts ha (λvh hv=>i1 vh hv K' hK)
 all_goals intros;trivial
structure Yj(V:Env)(E:Ev):Prop where
 code:∀c a h K,E.code c a h K=true->EV V.P c a h (λo a h=>K o a h=true)
 call:∀q h K,E.call q h K=true->CALL V.P q h (λr pm h=>K r pm h=true)
structure sH(V:Env):Prop where
 memo:∀f q h v h',(V.memo f).bind (λg=>g q h)=some (v,h')->q.pm=none->(∃args,target V.P q=some (f,args))->CALL V.P q h (λr pm h2=>r=.ok v/\pm=none/\h2=h')
 fn:∀f cf,V.F f=some cf->∃fn,V.P.funcs[f]? =some fn/\xL V.P fn=some cf
def DY{a b:Bool}(h:cond a b false=true):a=true/\b=true:=by
 grind
section
variable {V:Env} {E:Ev} (hE:Yj V E)
include hE
variable{h:IH}{s:bW}{ds:ae Tmp}{l:ae bW}{a:bB}{next:bB->IH->Bool}{k:BO}
def Yk(hw:a.wants s.s.guard=some true)
 (hn:∀a h,next a h=true->aJ V.P ds l a h (λo a h=>k o a h=true)) (hb:Na V.P E ds s a h next k=true):aJ V.P ds (s::l) a h (λo a h=>k o a h=true):=by
 unfold Na at hb;cases hq:Ac s.s.op a.eval with
 |none=>rw[hq]at hb;cases hb
 |some q=>
  rw[hq]at hb;have hc:=hE.call _ _ _ hb;refine .call hw q hq _ hc ?_ ?_ ?_
  .intro v pm h' hm;exact Sq (DY hm).1
  .grind
  grind
omit hE in
def Su{b:Bool}(h:Iz s b=true):s.re=[]/\b=true:=by
 unfold Iz at h
 grind
omit hE in
def aiR(hw:a.wants s.s.guard=some true)
 (hn:∀a h,next a h=true->aJ V.P ds l a h (λo a h=>k o a h=true)) (hb:Rh V.P s a h next=true):aJ V.P ds (s::l) a h (λo a h=>k o a h=true):=by
 unfold Rh at hb;split at hb
 .rename_i v h' hr;split at hb
  .exact .nC hw v h' hr (by grind) (hn _ _ hb)
  .exact .nC hw v h' hr (Sq (DY hb).1) (hn _ _ (DY hb).2)
 .cases hb
def aiS(hw:a.wants s.s.guard=some true)
 (hn:∀a h,next a h=true->aJ V.P ds l a h (λo a h=>k o a h=true)) (hb:Nc V.P E ds s a h next k=true):aJ V.P ds (s::l) a h (λo a h=>k o a h=true):=by
 unfold Nc at hb;split at hb
 .exact Yk hE hw hn hb
 .exact Yk hE hw hn hb
 .rename_i ho;obtain⟨hre,hb⟩:=Su hb;split at hb
  .cases hb
  .rename_i hro;split at hb
   .rename_i hm;exact .XR hw ho hre hm hro (hn _ _ hb)
   .rename_i m hm;exact .recoverD hw ho hre m hm hro (hn _ _ hb)
 .rename_i x ho;split at hb
  .rename_i t v hx;exact .panic hw x ho t v hx hb
  .cases hb
 .rename_i f args ho;obtain⟨hre,hb⟩:=Su hb;split at hb
  .cases hb
  .rename_i hro;split at hb
   .rename_i fn first captured hf
    exact .defer hw f args ho hre hro fn first captured hf (hn _ _ hb)
   .cases hb
 .rename_i x ho;obtain⟨hre,hb⟩:=Su hb;split at hb
  .rename_i alts ha;refine .next hw x ho hre alts ha λvh hv=>?_
   rw[FP,jN]at hb;exact hn _ _ (hb vh hv)
  .cases hb
 .exact aiR hw hn hb
def Sv{ds:ae Tmp}{k:BO}:∀{l:ae bW} {a:bB} {h:IH},IA V.P E ds l a h k=true->aJ V.P ds l a h (λo a h=>k o a h=true)
 |[],a,h,hb=>.nil hb
 |s::l,a,h,hb=>by
  have e:IA V.P E ds (s::l) a h k=(match a.wants s.s.guard with
   |some true=>Nc V.P E ds s a h (λa h=>IA V.P E ds l a h k) k
   |some false=>IA V.P E ds l (a.put s.s.dst xJ) h k
   |none=>false):=rfl
  rw[e]at hb;split at hb
  .rename_i hw;exact aiS hE hw (λa h h1=>Sv h1) hb
  .rename_i hw;exact .skip hw (Sv hb)
  .cases hb
def NI{cf:iL}{ts:T ah}:∀{ds:ae Deferred} {m:FrameMode} {h:IH} {k:jy->IH->Bool},DK E cf ts ds m h k=true->LEAVE V.P cf ts ds m h (λr h=>k r h=true)
 |[],m,h,k,hb=>by
  have e:DK E cf ts [] m h k=(match (generalizing:=false) m with
   | .returning=>match uj cf.results ts h with
     |some v=>k (.ok v) h
     |none=>false
   | .panicking ch=>k (.gT ch) h
   | .run=>false):=rfl
  rw[e]at hb;split at hb
  .split at hb
   .rename_i v hv;exact .ret v hv hb
   .cases hb
  .rename_i ch;exact .gT ch hb
  .cases hb
 |d::ds,m,h,k,hb=>by
  have e:DK E cf ts (d::ds) m h k=(match (generalizing:=false) m with
   | .run=>false
   |m=>match (generalizing:=false) d with
    |{target:=.collected r,.. }=>match h.get r with
     |some (.lC true)=>DK E cf ts ds m (h.set r (.lC false)) k
     |_=>false
    |{target:=.fn fn ⟨captured⟩,args:=⟨args⟩}=>E.call ⟨fn,args,captured,some m⟩ h λr pm h=>match pm with
     |none=>false
     |some m'=>match r with
      | .ok _=>DK E cf ts ds (BJ m') h k
      | .gT ch=>DK E cf ts ds (FJ m' ch) h k
    |_=>false):=rfl
  rw[e]at hb;split at hb
  .cases hb
  .rename_i hm;have hm':m≠.run:=by intro e;exact hm e
   split at hb
   .rename_i r args;split at hb
    .rename_i hr;exact .coll hm' r hr (NI hb)
    .cases hb
   .have hc:=hE.call _ _ _ hb;refine .call hm' _ hc ?_ ?_ ?_
    .grind
    .intro v m' h' hM;exact NI hM
    .intro ch m' h' hM;exact NI hM
   .cases hb
variable (hV:sH V)
include hV
variable{q:bD}{args:ae ah}
def Yl{f:fI}{k:BR}(ht:target V.P q=some (f,args))(hb:DL V E f args q.pm h k=true):CALL V.P q h (λr pm h=>k r pm h=true):=by
 unfold DL at hb;split at hb
 .cases hb
 .rename_i cf hcf;obtain⟨fn,hf,hfn⟩:=hV.fn f cf hcf;have hc:=hE.code _ _ _ _ hb;refine .enter f args ht fn hf cf hfn _ hc ?_ ?_
  .grind
  .intro o a' h' m hM e;rw[e]at hM;exact NI hE hM
omit hV in
def aiT{l:Nat}{k:BR}(hq:q.fn=.yield l)(hpm:q.pm=none)(hb:Ri E l q.args h k=true):CALL V.P q h (λr pm h=>k r pm h=true):=by
 unfold Ri at hb;split at hb
 .rename_i r hr;obtain⟨ha,hb⟩:=DY hb;have ha:=jR ha;rw[xO,xO]at ha;have hc:=hE.code _ _ _ _ hb;refine .round l hq hpm r hr ha _ hc ?_ ?_
  .grind
  .intro a' h' r1 hM hr1;simp only[hr1]at hM;split at hM
   .have hc2:=hE.code _ _ _ _ hM;refine Sr hc2 _ ?_;intro o a2 h2 hK;unfold Xb at hK
    grind
   .cases hM
 .cases hb
omit hE in
def aiU{k:BR}{f:Nat}{other:Bool}(ht:target V.P q=some (f,args))(ho:other=true->CALL V.P q h (λr pm h=>k r pm h=true))
 (hb:Rj V f q h k other=true):CALL V.P q h (λr pm h=>k r pm h=true):=by
 unfold Rj at hb;split at hb
 .exact ho hb
 .rename_i g hg;split at hb
  .exact ho hb
  .rename_i hpm;split at hb
   .rename_i v h' hv;refine .jP _ (hV.memo f q h v h' (by rw[hg];exact hv) hpm ⟨args,ht⟩) ?_
    grind
   .exact ho hb
def aiV(q:bD)(h:IH)(k:BR)(hb:Rk V E q h k=true):CALL V.P q h (λr pm h=>k r pm h=true):=by
 unfold Rk at hb;split at hb
 .rename_i l hq;split at hb
  .rename_i hpm;exact aiT hE hq hpm hb
  .cases hb
 .split at hb
  .cases hb
  .rename_i f' args ht;refine aiU hV ht (λhb=>?_) hb;split at hb
   .exact Yl hE hV ht hb
   .rename_i g hg;split at hb
    .cases hb
    .rename_i hpm;have hent:∀h k,DL V E f' args none h k=true->CALL V.P q h (λr pm h=>k r pm h=true):=by
      intro h k hh;exact Yl hE hV ht (by rw[hpm];exact hh)
     split at hb
     .grind
     .grind
     .rename_i cs n f hne hgq;obtain⟨h1,hb⟩:=DY hb;obtain⟨h2,hb⟩:=DY hb;simp only[eU,Fs]at h1;have hne':cs≠[]:=by
       grind
      refine .cut cs n f h1.1 hne' ?_ _ (hent _ _ h2) hpm ?_ hb
      .rcases h1.2 with e|e
       .exact .inl (jR e)
       .right;have:=jR e;rw[xO]at this;exact this
      .intro r pm h' hM;unfold Xc at hM;split at hM
       .cases hM
       .split at hM
        .rename_i i o f'' n' c;obtain⟨h3,h4⟩:=DY hM;simp only[eU,Fs,QV]at h3;obtain⟨⟨⟨⟨e1,e2⟩,e3⟩,e4⟩,e5⟩:=h3;have e1:=jR e1;have e2:=jR e2;subst e1;subst e2;refine⟨rfl,jR e5,i,o,c,rfl,mG e4,?_,?_⟩
         .intro e;rcases e3 with e3|e3
          .subst e;cases e3
          .exact jR e3
         .split at h4
          .rename_i l hl;rw[Gb (zf 5) _ _ h4]at hl;rw[xO]at hl;rw[hl]
          .cases h4
        .cases hM
omit hV in
def aiW(c:dH)(a:bB)(h:IH)(k:BO)(hb:Nf V E c a h k=true):EV V.P c a h (λo a h=>k o a h=true):=by
 cases c with
 |skip=>exact .skip hb
 |ops ds l=>exact .ops (Sv hE hb)
 |seq x y=>
  refine .seq _ (hE.code _ _ _ _ hb) ?_ ?_
  .intro a' h' hm;exact hE.code _ _ _ _ hm
  .exact mm
 |cond c x y=>
  simp only[Nf]at hb;split at hb
  .rename_i hc;exact .R9 hc (hE.code _ _ _ _ hb)
  .rename_i hc;exact .Sa hc (hE.code _ _ _ _ hb)
  .cases hb
 |block id c=>exact .block _ (hE.code _ _ _ _ hb) (λo a' h' hm=>hm)
 |loop c=>
  refine .loop _ (hE.code _ _ _ _ hb) ?_ ?_
  .intro a' h' hm;exact hE.code _ _ _ _ hm
  .exact mm
 |scope c=>exact .scope (hE.code _ _ _ _ hb)
 |exit id=>exact .exit hb
 |ret=>exact .ret hb
 |fail=>cases hb
 |rangeFunc f ps assign body=>
  simp only[Nf]at hb;split at hb
  .rename_i fn first captured hf
   split at hb
   .rename_i hro;refine .rangeFunc fn first captured hf _ _ h.next (.inl ⟨hro,rfl,rfl,rfl⟩) _ (hE.call _ _ _ hb) ?_ ?_
    .exact jt
    .intro ch pm h2 hm;exact hm
   .rename_i l0 hro;split at hb
    .rename_i r0 hr0;refine .rangeFunc fn first captured hf _ _ r0.defers (.inr ⟨l0,r0,hro,rfl,rfl,hr0,rfl⟩) _ (hE.call _ _ _ hb) ?_ ?_
     .exact jt
     .intro ch pm h2 hm;exact hm
    .cases hb
  .cases hb
end
def Sw{V:Env}(hV:sH V):∀n,Yj V (oZ V n)
 |0=>⟨(λ_ _ _ _ h=>by cases h),(λ_ _ _ h=>by cases h)⟩
 |n+1=>⟨λc a h k hb=>aiW (Sw hV n) c a h k hb,λq h k hb=>aiV (Sw hV n) hV q h k hb⟩
def uu(P:Program)(cut memo)(hm:∀f q h v h',(memo f).bind (λg=>g q h)=some (v,h')->q.pm=none->(∃args,target P q=some (f,args))->CALL P q h (λr pm h2=>r=.ok v/\pm=none/\h2=h')):sH (ni P cut memo) where
 memo:=hm
 fn f cf h:=by
  have e:(ni P cut memo).F f=(match (FL 100000 P.funcs.toList).get f with
   |some fn=>xL P fn
   |none=>none):=rfl
  rw[e]at h;split at h
  .rename_i fn hf;refine⟨fn,?_,h⟩;have:=Sn _ _ _ _ hf;rw[Array.getElem?_toList]at this;exact this
  .cases h
variable {P:Program}
def lk(l:qr)(k:Nat):ah:=
 match l with
 |[]=>eO
 |(j,v)::l=>cond (Nat.beq k j) v (lk l k)
noncomputable def jC:qr->T ah
 |[]=>.leaf
 |(j,v)::l=>(jC l).set j (some v)
def xZ:∀(l:qr) (k:Nat),dU (jC l) k=lk l k
 |[],k=>rfl
 |(j,v)::l,k=>by
  have ih:=xZ l k;unfold dU at ih⊢;simp only[jC,lk,T.mJ];by_cases e:k=j
  .subst e;simp
  .have:Nat.beq k j=false:=by
    cases hb:Nat.beq k j with
    |false=>rfl
    |true=>exact absurd (tL hb) e
   grind
noncomputable def act(n:Nat)(l:qr)(D:ae Deferred)(pm:ak FrameMode)(ro:ak Nat):bB:=⟨n,jC l,D,pm,ro⟩
def ev(l:qr)(x:az):ah:=
 match x with
 | .tmp t=>lk l t
 | .const v=>v
 | .global g=>.pointer (some ⟨g,0,none⟩)
 | .func f=>.func (.func f) #[] #[]
section
variable {n:Nat} {l:qr} {D:ae Deferred} {pm:ak FrameMode} {ro:ak Nat}
def qi:(act n l D pm ro).eval=ev l:=by
 funext x
 cases x with
 |tmp t=>exact xZ l t
 |_=>rfl
def sI{d:Nat}{v:ah}(h:Nat.blt d n=true):(act n l D pm ro).put (some d) v=act n ((d,v)::l) D pm ro:=by
 simp only[act,bB.put,bB.set,h];rfl
def NJ(t:Nat)(want:Bool):(act n l D pm ro).wants (some (t,want))=match lk l t with
 | .bool b=>some (cond want b (!b))
 | .chan _=>some false
 |_=>none:=by
 unfold bB.wants;simp only[act,xZ];cases lk l t<;>rfl
def weaker(a0 a:bB):Prop:=(∀i,dU a0.tmps i=eO\/dU a0.tmps i=dU a.tmps i)/\a0.n=a.n/\a0.defers=a.defers/\a0.pm=a.pm/\a0.ro=a.ro
def sub:qr->qr->Prop
 |[],_=>True
 |(k,v)::l0,l=>lk l k=v/\sub l0 l
def Ym:∀{l0 l:qr},sub l0 l->∀i,lk l0 i=eO\/lk l0 i=lk l i
 |[],l,_,i=>.inl rfl
 |(k,v)::l0,l,h,i=>by
  simp only[lk];cases hb:Nat.beq i k with
  |true=>right;rw[tL hb];exact h.1.symm
  |false=>exact Ym h.2 i
def Sy{l0:qr}(h:sub l0 l):weaker (act n l0 D pm ro) (act n l D pm ro):=
 ⟨λi=>by simp only[act,xZ];exact Ym h i,rfl,rfl,rfl,rfl⟩
def Ca(P:Program)(y:dH)(K:KO):KO:=λo a h=>match o with
 | .normal=>EV P y a h K
 |o=>K o a h
variable{K:KO}{h:IH}{a:bB}{x y:dH}
def aiX(h1:EV P x a h (Ca P y K)):EV P (.seq x y) a h K:=
 .seq _ h1 (λ_ _ hm=>hm) (λo a' h' hm hn=>by
  exact nq)
def Am(id:Nat)(K:KO):KO:=λo a h=>K (inBlock id o) a h
variable{c:dH}
def aiY{id:Nat}(h1:EV P c a h (Am id K)):EV P (.block id c) a h K:=.block _ h1 (λ_ _ _ hm=>hm)
def Jh{c:az}(b:Bool)(hc:ev l c=.bool b)(h1:b=true->EV P x (act n l D pm ro) h K)(h2:b=false->EV P y (act n l D pm ro) h K):EV P (.cond c x y) (act n l D pm ro) h K:=by
 cases b with
 |true=>exact .R9 (by rw[qi];exact hc) (h1 rfl)
 |false=>exact .Sa (by rw[qi];exact hc) (h2 rfl)
def x8(I:Nat->bB->IH->Prop)(m:Nat)(K:KO):KO:=λo a h=>match o with
 | .normal=>∃m' a0,m'<m/\weaker a0 a/\I m' a0 h
 |o=>K o a h
def aiZ(I:Nat->bB->IH->Prop)(hb:∀m a h,I m a h->EV P c a h (x8 I m K)):∀m a h,I m a h->EV P (.loop c) a h K:=by
 intro m;induction m using Nat.strongRecOn with
 |ind m ih=>
  intro a h hI;refine .loop _ (hb m a h hI) ?_ ?_
  .rintro a' h' ⟨m',a0,hlt,hw,hI'⟩;exact .weaken a0 hw.1 hw.2 (ih m' hlt a0 h' hI')
  .intro o a' h' hm hn;exact nq
def Yn{a0:bB}(hw:weaker a0 a)(h1:EV P c a0 h K):EV P c a h K:=.weaken a0 hw.1 hw.2 h1
section
variable {ds:ae Tmp} {rest:ae bW} {h:IH} {K:KO}
variable{d:Nat}{op:aK}
def step{v:ah}{h':IH}(hn:Nat.blt d n=true)(hr:op.run P (ev l) h=some (v,h'))
 (next:aJ P ds rest (act n ((d,v)::l) D pm ro) h' K):aJ P ds (⟨⟨some d,none,op⟩,[]⟩::rest) (act n l D pm ro) h K:=
 .nC rfl v h' wq xF xT
def stepG{t:Nat}{want:Bool}(hn:Nat.blt d n=true)(b:Bool)(ht:lk l t=.bool b)
 (h1:b=want->∃v h',op.run P (ev l) h=some (v,h')/\aJ P ds rest (act n ((d,v)::l) D pm ro) h' K)
 (h2:b≠want->aJ P ds rest (act n ((d,xJ)::l) D pm ro) h K):aJ P ds (⟨⟨some d,some (t,want),op⟩,[]⟩::rest) (act n l D pm ro) h K:=by
 by_cases e:b=want
 .obtain⟨v,h',hr,hnx⟩:=h1 e;refine .nC ?_ v h' wq xF (by rw[sI hn];exact hnx);rw[NJ,ht,e];cases want<;>rfl
 .refine .skip ?_ (by rw[sI hn];exact h2 e);rw[NJ];grind
end
end
def zg(cf:iL)(K:KR):KO:=λo a h=>
 match o with
 | .normal| .ret=>∃v,uj cf.results a.tmps h=some v/\Yo a/\K (.ok v) a.pm h
 | .panic ch=>Yo a/\K (.gT ch) a.pm h
 | .exit _=>False
where Yo (a:bB):Prop:=a.defers=[]
def ai0{f:fI}{args cap:ae ah}{pm:ak FrameMode}{h:IH}{K:KR}(fn:Func)(hf:P.funcs[f]? =some fn)(cf:iL)(hcf:xL P fn=some cf)
 (hb:EV P cf.body (DI cf.ntmps (args++cap) pm) h (zg cf K)):CALL P ⟨.func f,args,cap,pm⟩ h K:=by
 refine .enter f (args++cap) (by simp only[target,jO]) fn hf cf hcf _ hb ?_ ?_
 .intro o a h hm e;cases o with
  |exit _=>exact hm
  |_=>cases e
 .intro o a h' m hm he;cases o with
  |exit _=>cases hm
  |normal=>
   exact qv
  |ret=>
   exact qv
  |panic ch=>
   obtain⟨h2,h3⟩:=hm;cases he;rw[h2];exact .gT ch h3
end Go.Ideal
namespace Go.Ideal
noncomputable def ai1(k:Int)(l:ae Int):ae Int:=
 List.rec (motive:=λ_=>ae Int) [k] (λx l ih=>cond (leZ k x) (k::x::l) (x::ih)) l
noncomputable def ai2(l:ae MapEntry):ak (ae Int):=
 List.rec (motive:=λ_=>ak (ae Int)) (some []) (λe _ ih=>match e.key,ih with
  | .int .i64 k,some r=>some (ai1 k r)
  |_,_=>none) l
noncomputable def zh(s f:Nat):Nat->ak (bD->IH->ak (ae ah×Nat×Nat)):=λg=>
 cond (Nat.beq g s) (some λq h=>match q.args with
  |[.func (.func f') ⟨[]⟩ ⟨[.pointer (some ⟨b,o,none⟩)]⟩]=>cond (Nat.beq f' f) (match h.qa b o 1 with
   |some [.map (some m)]=>match h.get m with
    |some (.map es _)=>match ai2 es with
     |some l=>some (nQ (λk=>.int .i64 k) l,jq l,1)
     |none=>none
    |_=>none
   |_=>none) none
  |_=>none) none
noncomputable def NK(a b:aN):Bool:=
 match a,b with
 | .cells x,.cells y=>oW 5 (.agg ⟨x⟩) (.agg ⟨y⟩)
 |_,_=>false
def Yp{a b:aN}(h:NK a b=true):a=b:=by
 unfold NK at h;split at h
 .have:=zf _ _ _ h
  grind
 .cases h
noncomputable def Gc(l:ae (Nat×aN))(h:IH):Bool:=
 BF (λp=>match h.get p.1 with
  |some o=>NK p.2 o
  |none=>false) l
noncomputable def heapT:ae (Nat×aN)->T aN
 |[]=>.leaf
 |(i,o)::l=>(heapT l).set i (some o)
def Sz:∀(l:ae (Nat×aN)) (i:Nat),(heapT l).get i=none\/∃o,(i,o)∈l/\(heapT l).get i=some o
 |[],i=>.inl rfl
 |(j,o)::l,i=>by
  simp only[heapT,T.mJ];by_cases e:i=j
  .grind
  .rw[if_neg e];rcases Sz l i with h|⟨o',h1,h2⟩
   .exact .inl h
   grind
variable{l:ae (Nat×aN)}{h:IH}
def Yq(hh:Gc l h=true):∀i o,(i,o)∈l->h.get i=some o:=by
 intro i o hm;unfold Gc at hh;rw[FP,jN]at hh;have:=hh _ hm;dsimp only at this;split at this
 .rename_i o' he;rw[he,Yp this]
 .cases this
noncomputable def known(l:ae (Nat×aN))(n:Nat)(fn:Nat)(args:ae ah)(v:ah):bD->IH->ak (ah×IH):=λq h=>
 match q with
 |⟨.func f,as,[],none⟩=>cond (Nat.beq f fn&&oW 5 (.tuple ⟨args⟩) (.tuple ⟨as⟩)&&Nat.ble n h.next&&Gc l h) (some (v,h)) none
 |_=>none
variable{n:Nat}{v:ah}
def SA{P:Program}{fn:Nat}{args:ae ah}(hv:cB v=true)(hb:uW n args=true)(hl:l.all (λp=>Nat.blt p.1 n&&Iw n p.2)=true)
 (hgl:P.globals.size<=n) (hc:CALL P ⟨.func fn,args,[],none⟩ ⟨heapT l,n,n⟩ (λr pm h'=>pm=none/\r=.ok v/\h'.low=n))
 {q:bD} {h:IH} {v':ah} {h':IH} (hk:known l n fn args v q h=some (v',h')):CALL P q h (λr pm h2=>r=.ok v'/\pm=none/\h2=h'):=by
 unfold known at hk;split at hk
 .rename_i f as;cases hcd:(Nat.beq f fn&&oW 5 (.tuple ⟨args⟩) (.tuple ⟨as⟩)&&Nat.ble n h.next&&Gc l h)with
  |false=>rw[hcd]at hk;cases hk
  |true=>
   rw[hcd]at hk;obtain⟨rfl,rfl⟩:=hk;simp only[eU]at hcd;obtain⟨⟨⟨h1,h2⟩,h3⟩,h4⟩:=hcd;have h1:=jR h1;subst h1;have h2:=zf _ _ _ h2;injection h2 with h2;injection h2 with h2;subst h2;refine .memo ⟨heapT l,n,n⟩ v hv rfl ?_ (mG h3) hgl ?_ _ hc (λr pm h' h=>h) ⟨rfl,rfl,rfl⟩
   .simp[qN,uW,hb]
   .intro i o ho;rcases Sz l i with e|⟨o',e1,e2⟩
    .exact absurd (ho.symm.trans e) tg
    .have:o'=o:=by have:=e2.symm.trans ho;simpa using this
     subst this;rw[jN]at hl;have:=hl _ e1;simp only[eU]at this;exact⟨Ga this.1,Yq h4 i o' e1,this.2⟩
 .cases hk
def qB{V:Env}(hV:sH V){n:Nat}{q:bD}{h:IH}{K:BR}(hb:(oZ V n).call q h K=true):CALL V.P q h (λr pm h=>K r pm h=true):=
 (Sw hV n).call q h K hb
noncomputable def gives(v:ah)(n:Nat):BR:=λr pm h=>match pm with
 |some _=>false
 |none=>match r with
  | .ok v'=>oW 5 v v'&&Nat.beq h.low n
  | .gT _=>false
def NL{r:jy}{pm:ak FrameMode}(hg:gives v n r pm h=true):pm=none/\r=.ok v/\h.low=n:=by
 unfold gives at hg;split at hg
 .cases hg
 .split at hg
  .simp only[eU]at hg;exact⟨rfl,by rw[zf _ _ _ hg.1],jR hg.2⟩
  .cases hg
