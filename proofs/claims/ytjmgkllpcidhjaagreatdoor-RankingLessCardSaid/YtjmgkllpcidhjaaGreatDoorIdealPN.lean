/-
  The model's machine never takes a draw back: what a call draws is drawn behind what was drawn.
-/
import Derived.Test.YtjmgkllpcidhjaaGreatDoorIdealAN
import Derived.Calls
import Derived.StepT
import Derived.Lone
set_option linter.all false
set_option maxHeartbeats 4000000
namespace Go.Ideal
variable {P:Program}
theorem Lg{α:Type}:∀(a:Ask α) (w:World),w.drawn<=(w.ask a).2.drawn
 | .done a,w=>aH _
 | .ask what range k,w=>by
   unfold World.ask;dsimp only;split
   ·exact Lg (k 0) w
   ·exact dz (vM _) (Lg _ {w with drawn:=w.drawn+1})
theorem Q8(w:World)(c:Sys):w.drawn<=(w.sys c).2.drawn:=by
 have:=Lg (Kernel.perform c w.os) w;unfold World.sys;split
 ·exact aH _
 ·rename_i h;rw[h]at this;exact this
theorem abS{w w':World}{a:Addr}{v:Value}{b:Bool}{l:List Addr}(h:w.farStore P a v b=.ok (w',l)):w'.drawn=w.drawn:=by
 unfold World.farStore at h;split at h
 ·split at h
  ·rename_i r hr;injection h with h;subst h;unfold World.viewStore at hr;simp only[bind,Except.bind,pure,Except.pure,throw,throwThe,MonadExceptOf.throw]at hr;repeat' split at hr
   all_goals first|(cases hr;done)|(injection hr with hr;injection hr with hr _;rw[<- hr])
  ·cases h
 ·cases h
def Q9{α:Type}:Result α->World
 | .ok _ w=>w
 | .halt _ w=>w
theorem Ra{α:Type}:∀(s:Sem α) (w:World),w.drawn<=(Q9 (s.run P w)).drawn:=by
 intro s;induction s with
 |pure a=>intro w;exact aH _
 |load m a k ih=>
  intro w;unfold Sem.run;split
  ·exact ih _ _
  ·split
   ·exact ih _ _
   ·exact aH _
 |store m a v k ih=>
  intro w;have hmain:∀v:Value,w.drawn<=(Q9 (match w.cell? a with
   |some _=>if w.frozen? a then .halt (.unsupported (.unsafePointer "a write to bytes that a string shares")) w else k.run P (w.setCell a v)
   |none=>match w.farStore P a v (m==.atomic)with
    | .ok (w,_)=>k.run P w
    | .error h=>.halt h w)).drawn:=λv=>by
   split
   ·split
    ·exact aH _
    ·show(w.setCell a v).drawn<=_;exact ih _
   ·split
    ·rename_i hf;rw[<- abS hf];exact ih _
    ·exact aH _
  cases v<;>first|exact hmain _|exact aH _
 |new o k ih=>intro w;exact ih _ {w with heap:=w.heap.push o}
 |shape r k ih=>intro w;exact ih _ _
 |freeze a n k ih=>
  intro w;refine dz (Nat.le_of_eq ?_) (ih (w.freeze a n));unfold World.freeze;split<;>rfl
 |frozen a k ih=>intro w;exact ih _ _
 |getObj r k ih=>
  intro w;unfold Sem.run;split
  ·exact aH _
  ·exact ih _ _
  ·exact aH _
 |setObj r o k ih=>
  intro w;unfold Sem.run;split
  ·exact aH _
  ·exact ih {w with heap:=w.heap.setIfInBounds r o}
  ·exact aH _
 |choose q k ih=>
  intro w;unfold Sem.run;split
  ·exact ih _ _
  ·exact dz (vM _) (ih _ {w with drawn:=w.drawn+1})
 |sys c k ih=>intro w;exact dz (Q8 w c) (ih _ _)
 |program k ih=>intro w;exact ih _ _
 |mark m k ih=>intro w;exact ih _
 |halt h=>intro w;exact aH _
theorem dI{α:Type}{s:Sem α}{w w':World}{a:α}(h:s.run P w=.ok a w'):w.drawn<=w'.drawn:=by
 have:=Ra (P:=P) s w;rw[h]at this;exact this
theorem dM{α:Type}{s:Sem α}{w w':World}{a:Halt}(h:s.run P w=.halt a w'):w.drawn<=w'.drawn:=by
 have:=Ra (P:=P) s w;rw[h]at this;exact this
def gw:GStep->World
 | .go _ w _=>w
 | .comm _ _ _ _ w _=>w
 | .spawn _ _ w _=>w
 | .count _ w _=>w
 | .timer _ _ w _=>w
 | .alone _ _ w _=>w
 | .newcoro _ _ _ w _=>w
 | .coroswitch _ _ _ w _=>w
 | .collect _ w _=>w
 | .watch _ w _=>w
 | .ended _ w _=>w
theorem qb(es:Array Event)(s:GStep):gw (GStep.after es s)=gw s:=by cases s<;>rfl
theorem Rb(fr:Frame)(m:String)(w:World):gw (endThrow fr m w)=w:=rfl
theorem Rc(w:World)(fd:Nat)(text:ByteArray)(o:Outcome):w.drawn<=(gw (endWith w fd text o)).drawn:=by
 have:=Q8 w (.write fd text);unfold endWith;simp only[];split
 ·rename_i h;rw[h]at this;split
  ·exact this
  ·split<;>exact this
 ·rename_i h;rw[h]at this;exact this
 ·rename_i h;have h2:((w.sys (.write fd text)).2).drawn=_:=congrArg (λx:SysRet×World=>x.2.drawn) h;rw[h2]at this;split<;>exact this
theorem abT(w:World)(fd:Nat)(text:ByteArray)(o:Outcome):∃o' w' es,endWith w fd text o=.ended o' w' es:=by
 unfold endWith;simp only[];split
 ·split
  ·exact⟨_,_,_,rfl⟩
  ·split<;>exact⟨_,_,_,rfl⟩
 ·exact⟨_,_,_,rfl⟩
 ·split<;>exact⟨_,_,_,rfl⟩
theorem lD(p:Program)(fr:Frame)(v:Value)(w:World):gw (endPrinting p fr v w)=w:=by
 unfold endPrinting;simp only[];split<;>rfl
theorem lF(p:Program)(fr:Frame)(callers:List Frame)(dying:Option Dying)(m:String)(w:World):w.drawn<=(gw (endFatal p fr callers dying m w)).drawn:=by
 unfold endFatal;simp only[];split
 ·rename_i h;exact dI h
 ·rename_i h;exact dM h
 ·rename_i h;exact dM h
theorem abU(p:Program)(fr:Frame)(d:Dying)(f:Fatal)(w:World):w.drawn<=(gw (writeOn p fr d f w)).drawn:=by
 unfold writeOn;simp only[Sem.runT_eq];repeat' first
  |exact aH _
  |(rename_i h;simp only[bM]at h;exact dI h.1)
  |(rename_i h;simp only[bM]at h;exact dM h.1)
  |split
theorem ji(p:Program)(main:Bool)(fr:Frame)(callers:List Frame)(dying:Option Dying)(v:Value)(w:World):gw (doReturn p main fr callers dying v w)=w:=by
 unfold doReturn;simp only[];repeat' first
  |rfl
  |split
theorem abV(p:Program)(fr:Frame)(d:Dying)(w:World):w.drawn<=(gw (die p fr d w)).drawn:=by
 unfold die;simp only[Sem.runT_eq,qb];repeat' first
  |exact abU _ _ _ _ _
  |exact Rc _ _ _ _
  |exact aH _
  |exact dI (by assumption)
  |exact dM (by assumption)
  |exact lF ..
  |exact dz (dM (by assumption)) (lF ..)
  |(rw[lD];exact dM (by assumption))
  |(rw[lD];exact aH _)
  |(rw[qb];first|exact aH _|exact dI (by assumption)|exact dM (by assumption)|exact dz (dM (by assumption)) (lF ..)|(rw[lD];exact dM (by assumption))|(rw[ji];exact dI (by assumption))|(rw[ji];exact aH _)|fail)
  |(rw[ji];exact dI (by assumption))
  |(rw[ji];exact aH _)
  |(refine dz (dI (by assumption)) ?_;exact aH _)
  |split
theorem abW(p:Program)(fr:Frame)(callers:List Frame)(dying:Option Dying)(d:Deferred)(w:World):w.drawn<=(gw (callDeferred p fr callers dying d w)).drawn:=by
 unfold callDeferred;simp only[Sem.runT_eq,qb];repeat' first
  |exact aH _
  |exact dI (by assumption)
  |exact dM (by assumption)
  |exact lF ..
  |exact dz (dM (by assumption)) (lF ..)
  |(rw[lD];exact dM (by assumption))
  |(rw[lD];exact aH _)
  |(rw[qb];first|exact aH _|exact dI (by assumption)|exact dM (by assumption)|exact dz (dM (by assumption)) (lF ..)|(rw[lD];exact dM (by assumption))|(rw[ji];exact dI (by assumption))|(rw[ji];exact aH _)|fail)
  |(rw[ji];exact dI (by assumption))
  |(rw[ji];exact aH _)
  |(refine dz (dI (by assumption)) ?_;exact aH _)
  |split
theorem abX(p:Program)(main:Bool)(fr:Frame)(callers:List Frame)(dying:Option Dying)(w:World):w.drawn<=(gw (unwind p main fr callers dying w)).drawn:=by
 unfold unwind;simp only[Sem.runT_eq,qb];repeat' first
  |exact abW ..
  |exact aH _
  |exact dI (by assumption)
  |exact dM (by assumption)
  |exact lF ..
  |exact dz (dM (by assumption)) (lF ..)
  |(rw[lD];exact dM (by assumption))
  |(rw[lD];exact aH _)
  |(rw[qb];first|exact aH _|exact dI (by assumption)|exact dM (by assumption)|exact dz (dM (by assumption)) (lF ..)|(rw[lD];exact dM (by assumption))|(rw[ji];exact dI (by assumption))|(rw[ji];exact aH _)|fail)
  |(rw[ji];exact dI (by assumption))
  |(rw[ji];exact aH _)
  |(refine dz (dI (by assumption)) ?_;exact aH _)
  |split
theorem Re(p:Program)(fr:Frame)(callers:List Frame)(dying:Option Dying)(g:Nat)(w:World):w.drawn<=(gw (early p fr callers dying g w)).drawn:=by
 unfold early;simp only[];repeat' first
  |exact aH _
  |exact dI (by assumption)
  |exact dM (by assumption)
  |exact lF ..
  |exact dz (dM (by assumption)) (lF ..)
  |(rw[lD];exact dM (by assumption))
  |(rw[lD];exact aH _)
  |(rw[qb];first|exact aH _|exact dI (by assumption)|exact dM (by assumption)|exact dz (dM (by assumption)) (lF ..)|(rw[lD];exact dM (by assumption))|(rw[ji];exact dI (by assumption))|(rw[ji];exact aH _)|fail)
  |(rw[ji];exact dI (by assumption))
  |(rw[ji];exact aH _)
  |(refine dz (dI (by assumption)) ?_;exact aH _)
  |split
theorem F7(p:Program)(l:Bool)(fr:Frame)(callers:List Frame)(dying:Option Dying)(s:Sem Next)(w:World):w.drawn<=(gw (Go.stepG.apply p l fr callers dying s w)).drawn:=by
 unfold Go.stepG.apply;have h0:(if l=true then s.runT p w #[]else(s.run p w, #[])).1=s.run p w:=by split<;>simp
 generalize hr:(if l=true then s.runT p w #[]else(s.run p w, #[]))=re at h0;obtain⟨r,es⟩:=re;dsimp only at h0;subst h0;simp only[qb];repeat' first
  |exact dz (dM (by assumption)) (Re ..)
  |(rw[qb];exact dz (dM (by assumption)) (Re ..))
  |exact aH _
  |exact dI (by assumption)
  |exact dM (by assumption)
  |exact lF ..
  |exact dz (dM (by assumption)) (lF ..)
  |(rw[lD];exact dM (by assumption))
  |(rw[lD];exact aH _)
  |(rw[qb];first|exact aH _|exact dI (by assumption)|exact dM (by assumption)|exact dz (dM (by assumption)) (lF ..)|(rw[lD];exact dM (by assumption))|(rw[ji];exact dI (by assumption))|(rw[ji];exact aH _)|fail)
  |(rw[ji];exact dI (by assumption))
  |(rw[ji];exact aH _)
  |(refine dz (dI (by assumption)) ?_;exact aH _)
  |split
theorem abY(p:Program)(l:Bool)(fr:Frame)(callers:List Frame)(dying:Option Dying)(w:World):w.drawn<=(gw (Go.stepG.oper p l fr callers dying w)).drawn:=by
 unfold Go.stepG.oper;repeat' first
  |exact aH _
  |exact F7 ..
  |split
theorem abZ(p:Program)(main l:Bool)(fr:Frame)(callers:List Frame)(dying:Option Dying)(w:World):w.drawn<=(gw (Go.stepG.exec p main l fr callers dying w)).drawn:=by
 unfold Go.stepG.exec;unfold Option.elim;simp only[Sem.runT_eq,qb];repeat' first
  |exact dz (dI (by assumption)) (F7 ..)
  |exact F7 ..
  |exact abY ..
  |(rw[qb];exact dz (dI (by assumption)) (F7 ..))
  |exact aH _
  |exact dI (by assumption)
  |exact dM (by assumption)
  |exact lF ..
  |exact dz (dM (by assumption)) (lF ..)
  |(rw[lD];exact dM (by assumption))
  |(rw[lD];exact aH _)
  |(rw[qb];first|exact aH _|exact dI (by assumption)|exact dM (by assumption)|exact dz (dM (by assumption)) (lF ..)|(rw[lD];exact dM (by assumption))|(rw[ji];exact dI (by assumption))|(rw[ji];exact aH _)|fail)
  |(rw[ji];exact dI (by assumption))
  |(rw[ji];exact aH _)
  |(refine dz (dI (by assumption)) ?_;exact aH _)
  |split
theorem ab0(p:Program)(main l:Bool)(g:Goroutine)(w:World):w.drawn<=(gw (Go.stepG p main g w l)).drawn:=by
 unfold Go.stepG;repeat' first
  |exact abV ..
  |exact abZ ..
  |exact abX ..
  |split
def Df:Stepped->World
 | .next m=>m.world
 | .ended _ w=>w
theorem ab1(p:Program)(rest:Rest)(gs:Array Goroutine)(i:Nat)(g:Goroutine)(cases:Array CommCase)(blocking:Bool)
 (shape:CommShape) (w:World):w.drawn<=(Df (communicate p rest gs i g cases blocking shape w).1).drawn:=by
 have ab2:∀w',waitingAt rest cases w=some w'->w'.drawn=w.drawn:=λw' h=>by
  unfold waitingAt at h;repeat' first
   |(cases h;done)
   |(injection h with h;rw[<- h])
   |split at h
 unfold communicate;simp only[];repeat' first
  |exact aH _
  |exact dI (by assumption)
  |exact dM (by assumption)
  |exact Nat.le_of_eq (ab2 _ (by assumption)).symm
  |(refine dz (dI (by assumption)) ?_;first|exact aH _|exact dI (by assumption)|exact dM (by assumption)|(refine dz (dI (by assumption)) ?_;exact aH _)|fail)
  |split
theorem Rf(p:Program)(gs:Array Goroutine)(rest:Rest)(w:World):w.drawn<=(Df (look p gs rest w)).drawn:=by
 unfold look;simp only[];repeat' first
  |exact aH _
  |exact dI (by assumption)
  |exact dM (by assumption)
  |(refine dz (dI (by assumption)) ?_;exact aH _)
  |split
theorem ab3(w:World)(c:Nat):(drain w c).2.drawn=w.drawn:=by
 unfold drain;split<;>rfl
theorem Rh(m:Machine)(k:Nat)(t:Timer)(a b:Nat):(retime m k t a b).2.world.drawn=m.world.drawn:=by
 unfold retime;cases hc:t.chan with
 |none=>rfl
 |some c=>exact ab3 _ _
theorem ab4{m m':Machine}{var:Addr}(h:timerOp.opened m var=some m'):m'.world.drawn=m.world.drawn:=by
 unfold timerOp.opened at h;repeat' first
  |(cases h;done)
  |(injection h with h;rw[<- h];done)
  |(injection h with h;rw[<- h])
  |split at h
theorem Ri{m m':Machine}{v:Value}{var:Addr}{f:Nat->Timer->Value×Machine}(M:Machine)(hf:∀k t,(f k t).2.world.drawn=M.world.drawn)(h:timerOp.named m var f=.ok (v,m')):m'.world.drawn=M.world.drawn:=by
 unfold timerOp.named at h;split at h
 ·rename_i k _;injection h with h;have:=hf k (m.rest.timers.getD k default);rw[h]at this;exact this
 ·cases h
theorem ab5{m m':Machine}{op:TimerOp}{v:Value}(h:timerOp m op=.ok (v,m')):m'.world.drawn=m.world.drawn:=by
 unfold timerOp at h;simp only[]at h;split at h
 ·split at h
  ·injection h with h;injection h with _ h;rw[<- h];rfl
  ·split at h
   ·split at h
    ·cases h
    ·injection h with h;injection h with _ h;rw[<- h]
   ·cases h
 ·exact Ri m (λk t=>Rh ..) h
 ·split at h
  ·rename_i m2 h2;exact(Ri m2 (λk t=>Rh ..) h).trans (ab4 h2)
  ·cases h
 ·injection h with h;injection h with _ h;rw[<- h];rfl
theorem ab6(p:Program)(m:Machine)(k:Nat):m.world.drawn<=(Df (serve p m k)).drawn:=by
 unfold serve;simp only[];repeat' first
  |exact aH _
  |split
theorem ab7(p:Program)(m:Machine)(i:Nat)(l:Bool):m.world.drawn<=(Df (runT p m i l).1).drawn:=by
 simp only[runT];generalize m.gs.swapAt! _ _=gg;have hs:=ab0 p (i==0) l gg.1 m.world;generalize Go.stepG p _ gg.1 m.world l=s at hs;cases s with
 |go g w es=>exact hs
 |comm g cs b sh w es=>exact dz hs (ab1 ..)
 |spawn g c w es=>exact hs
 |count g w es=>
  simp only[];split
  ·exact hs
  ·exact hs
 |timer g op w es=>
  simp only[];split
  ·rename_i h;have:=ab5 h;refine dz hs (Nat.le_of_eq this.symm)
  ·split
   ·rename_i h;have e:_=gw _:=congrArg gw h;rw[Rb]at e;dsimp only[gw]at e;subst e;exact hs
   ·exact hs
  ·exact hs
  ·exact hs
 |alone g on w es=>exact hs
 |newcoro g c d w es=>exact hs
 |coroswitch g c ex w es=>
  simp only[];split
  ·exact hs
  ·split
   ·rename_i h;have e:_=gw _:=congrArg gw h;rw[Rb]at e;dsimp only[gw]at e;subst e;exact hs
   ·exact hs
  ·exact hs
 |collect g w es=>exact dz hs (Rf ..)
 |watch g w es=>exact hs
 |ended o w es=>exact hs
def Lh:Move->World
 | .goroutine m _=>m.world
 | .machine s _=>Df s
theorem F8{w:World}{gs:Array Goroutine}{rest:Rest}{t x:Nat}(h:(Machine.advanceTo {world:=w,gs:=gs,rest:=rest} t).world.drawn<=x):w.drawn<=x:=h
theorem Li(p:Program)(m:Machine):m.world.drawn<=(Lh (askOn p m)).drawn:=by
 unfold askOn;simp only[];repeat' first
  |exact aH _
  |exact dI (by assumption)
  |exact dM (by assumption)
  |(refine dz (dI (by assumption)) ?_;first|exact aH _|exact dI (by assumption)|exact dM (by assumption)|exact ab6 p {m with world:=_} _|(refine dz (dI (by assumption)) ?_;first|exact aH _|exact dI (by assumption)|exact dM (by assumption)|exact F8 (dM (by assumption))|exact F8 (dI (by assumption))|exact F8 (dz (dI (by assumption)) (dI (by assumption)))|exact F8 (dz (dI (by assumption)) (dM (by assumption)))|(refine dz (dI (by assumption)) ?_;first|exact aH _|exact dI (by assumption)|exact dM (by assumption)|fail)|fail)|fail)
  |split
 ·rename_i hE;exact dz (dI (by assumption)) (dz (Rc _ _ _ _) (Nat.le_of_eq (congrArg (λs=>(gw s).drawn) hE)))
 ·rename_i hE;obtain⟨o',w',es',e⟩:=abT _ _ _ _;exact absurd e (hE o' w' es')
theorem Lj(p:Program)(m:Machine):m.world.drawn<=(Lh (ask p m)).drawn:=by
 unfold ask;split
 ·split
  ·rename_i h;exact dM h
  ·rename_i h;have h1:=dI h;have h2:=Rf p m.gs m.rest ‹World›;split
   ·rename_i hl;rw[hl]at h2;exact dz h1 (dz h2 (Li ..))
   ·exact dz h1 h2
  ·rename_i h;exact dz (dI h) (Li p {m with world:=_})
 ·exact Li ..
theorem ab8(p:Program)(m:Machine):m.world.drawn<=(Lh (move p m)).drawn:=by
 unfold move;repeat' first
  |exact aH _
  |exact Lj p m
  |exact Lj p {world:=m.world,gs:=m.gs,rest:=_}
  |(generalize hM:Machine.mk _ _ _=M;have hw:M.world=m.world:=by rw[<- hM]
    rw[<- hw];exact Lj p M)
  |split
theorem ab9{p:Program}{m m':Machine}(h:step p m=.next m'):m.world.drawn<=m'.world.drawn:=by
 have h1:=ab8 p m;unfold step stepT at h;split at h
 ·rename_i m1 i hm;rw[hm]at h1;have h2:=ab7 p m1 i true;rw[h]at h2;exact dz h1 h2
 ·rename_i s ops hm;rw[hm]at h1;dsimp only at h;rw[h]at h1;exact h1
theorem Rj{p:Program}:∀{n:Nat} {m m':Machine},runN p n m=.next m'->m.world.drawn<=m'.world.drawn
 |0,m,m',h=>by cases h;exact aH _
 |n+1,m,m',h=>by
  unfold runN at h;split at h
  ·rename_i hs;exact dz (ab9 hs) (Rj h)
  ·rename_i hs;exact absurd h (hs m')
theorem acd{f:FuncId}{args:Array Value}{w:World}{R:Ending->World->Prop}(h:Calls P f args w R)(hR:∀e w',R e w'->e≠.outgrown):Calls P f args w (λe w'=>R e w'/\w.drawn<=w'.drawn):=λcs=>by
 obtain⟨e,w',fr,h1,h2,h3⟩:=h cs;refine⟨e,w',fr,⟨h1,?_⟩,h2,h3⟩;have hs:Steps P (lone (Frame.enter P f args .normal) cs w) (lone fr cs w'):=by
  cases e with
  |returned v=>exact h2
  |panicked c=>exact h2
  |outgrown=>exact absurd rfl (hR _ _ h1)
 obtain⟨n,hn⟩:=hs;exact Rj hn
