/-
  The model's machine never takes a draw back: what a call draws is drawn behind what was drawn.
-/
import Derived.Test.YtbdaaopebgcnaaaGreatDoorIdealAM
import Derived.Calls
import Derived.StepT
import Derived.Lone
set_option linter.all false
set_option maxHeartbeats 4000000
namespace Go.Ideal
variable {P:Program}
theorem Jl{α:Type}:∀(a:Ask α) (w:World),w.drawn<=(w.ask a).2.drawn
 | .done a,w=>aC _
 | .ask what range k,w=>by
   unfold World.ask;dsimp only;split
   ·exact Jl (k 0) w
   ·exact cO (uB _) (Jl _ {w with drawn:=w.drawn+1})
theorem O8(w:World)(c:Sys):w.drawn<=(w.sys c).2.drawn:=by
 have:=Jl (Kernel.perform c w.os) w;unfold World.sys;split
 ·exact aC _
 ·rename_i h;rw[h]at this;exact this
theorem ZC{w w':World}{a:Addr}{v:Value}{b:Bool}{l:List Addr}(h:w.farStore P a v b=.ok (w',l)):w'.drawn=w.drawn:=by
 unfold World.farStore at h;split at h
 ·split at h
  ·rename_i r hr;injection h with h;subst h;unfold World.viewStore at hr;simp only[bind,Except.bind,pure,Except.pure,throw,throwThe,MonadExceptOf.throw]at hr;repeat' split at hr
   all_goals first|(cases hr;done)|(injection hr with hr;injection hr with hr _;rw[<- hr])
  ·cases h
 ·cases h
def O9{α:Type}:Result α->World
 | .ok _ w=>w
 | .halt _ w=>w
theorem Pb{α:Type}:∀(s:Sem α) (w:World),w.drawn<=(O9 (s.run P w)).drawn:=by
 intro s;induction s with
 |pure a=>intro w;exact aC _
 |load m a k ih=>
  intro w;unfold Sem.run;split
  ·exact ih _ _
  ·split
   ·exact ih _ _
   ·exact aC _
 |store m a v k ih=>
  intro w;have hmain:∀v:Value,w.drawn<=(O9 (match w.cell? a with
   |some _=>if w.frozen? a then .halt (.unsupported (.unsafePointer "a write to bytes that a string shares")) w else k.run P (w.setCell a v)
   |none=>match w.farStore P a v (m==.atomic)with
    | .ok (w,_)=>k.run P w
    | .error h=>.halt h w)).drawn:=λv=>by
   split
   ·split
    ·exact aC _
    ·show(w.setCell a v).drawn<=_;exact ih _
   ·split
    ·rename_i hf;rw[<- ZC hf];exact ih _
    ·exact aC _
  cases v<;>first|exact hmain _|exact aC _
 |new o k ih=>intro w;exact ih _ {w with heap:=w.heap.push o}
 |shape r k ih=>intro w;exact ih _ _
 |freeze a n k ih=>
  intro w;refine cO (Nat.le_of_eq ?_) (ih (w.freeze a n));unfold World.freeze;split<;>rfl
 |frozen a k ih=>intro w;exact ih _ _
 |getObj r k ih=>
  intro w;unfold Sem.run;split
  ·exact aC _
  ·exact ih _ _
  ·exact aC _
 |setObj r o k ih=>
  intro w;unfold Sem.run;split
  ·exact aC _
  ·exact ih {w with heap:=w.heap.setIfInBounds r o}
  ·exact aC _
 |choose q k ih=>
  intro w;unfold Sem.run;split
  ·exact ih _ _
  ·exact cO (uB _) (ih _ {w with drawn:=w.drawn+1})
 |sys c k ih=>intro w;exact cO (O8 w c) (ih _ _)
 |program k ih=>intro w;exact ih _ _
 |mark m k ih=>intro w;exact ih _
 |halt h=>intro w;exact aC _
theorem dx{α:Type}{s:Sem α}{w w':World}{a:α}(h:s.run P w=.ok a w'):w.drawn<=w'.drawn:=by
 have:=Pb (P:=P) s w;rw[h]at this;exact this
theorem dJ{α:Type}{s:Sem α}{w w':World}{a:Halt}(h:s.run P w=.halt a w'):w.drawn<=w'.drawn:=by
 have:=Pb (P:=P) s w;rw[h]at this;exact this
def gw:GStep->World
 | .go _ w _=>w
 | .comm _ _ _ _ w _=>w
 | .spawn _ _ w _=>w
 | .count _ w _=>w
 | .timer _ _ w _=>w
 | .alone _ _ w _=>w
 | .newcoro _ _ _ w _=>w
 | .coroswitch _ _ _ w _=>w
 | .collect _ w _=>w
 | .watch _ w _=>w
 | .ended _ w _=>w
theorem oF(es:Array Event)(s:GStep):gw (GStep.after es s)=gw s:=by cases s<;>rfl
theorem Pd(fr:Frame)(m:String)(w:World):gw (endThrow fr m w)=w:=rfl
theorem Pe(w:World)(fd:Nat)(text:ByteArray)(o:Outcome):w.drawn<=(gw (endWith w fd text o)).drawn:=by
 have:=O8 w (.write fd text);unfold endWith;simp only[];split
 ·rename_i h;rw[h]at this;split
  ·exact this
  ·split<;>exact this
 ·rename_i h;rw[h]at this;exact this
 ·rename_i h;have h2:((w.sys (.write fd text)).2).drawn=_:=congrArg (λx:SysRet×World=>x.2.drawn) h;rw[h2]at this;split<;>exact this
theorem ZE(w:World)(fd:Nat)(text:ByteArray)(o:Outcome):∃o' w' es,endWith w fd text o=.ended o' w' es:=by
 unfold endWith;simp only[];split
 ·split
  ·exact⟨_,_,_,rfl⟩
  ·split<;>exact⟨_,_,_,rfl⟩
 ·exact⟨_,_,_,rfl⟩
 ·split<;>exact⟨_,_,_,rfl⟩
theorem kP(p:Program)(fr:Frame)(v:Value)(w:World):gw (endPrinting p fr v w)=w:=by
 unfold endPrinting;simp only[];split<;>rfl
theorem kQ(p:Program)(fr:Frame)(callers:List Frame)(dying:Option Dying)(m:String)(w:World):w.drawn<=(gw (endFatal p fr callers dying m w)).drawn:=by
 unfold endFatal;simp only[];split
 ·rename_i h;exact dx h
 ·rename_i h;exact dJ h
 ·rename_i h;exact dJ h
theorem ZF(p:Program)(fr:Frame)(d:Dying)(f:Fatal)(w:World):w.drawn<=(gw (writeOn p fr d f w)).drawn:=by
 unfold writeOn;simp only[Sem.runT_eq];repeat' first
  |exact aC _
  |(rename_i h;simp only[bz]at h;exact dx h.1)
  |(rename_i h;simp only[bz]at h;exact dJ h.1)
  |split
theorem iR(p:Program)(main:Bool)(fr:Frame)(callers:List Frame)(dying:Option Dying)(v:Value)(w:World):gw (doReturn p main fr callers dying v w)=w:=by
 unfold doReturn;simp only[];repeat' first
  |rfl
  |split
theorem ZG(p:Program)(fr:Frame)(d:Dying)(w:World):w.drawn<=(gw (die p fr d w)).drawn:=by
 unfold die;simp only[Sem.runT_eq,oF];repeat' first
  |exact ZF _ _ _ _ _
  |exact Pe _ _ _ _
  |exact aC _
  |exact dx (by assumption)
  |exact dJ (by assumption)
  |exact kQ ..
  |exact cO (dJ (by assumption)) (kQ ..)
  |(rw[kP];exact dJ (by assumption))
  |(rw[kP];exact aC _)
  |(rw[oF];first|exact aC _|exact dx (by assumption)|exact dJ (by assumption)|exact cO (dJ (by assumption)) (kQ ..)|(rw[kP];exact dJ (by assumption))|(rw[iR];exact dx (by assumption))|(rw[iR];exact aC _)|fail)
  |(rw[iR];exact dx (by assumption))
  |(rw[iR];exact aC _)
  |(refine cO (dx (by assumption)) ?_;exact aC _)
  |split
theorem ZH(p:Program)(fr:Frame)(callers:List Frame)(dying:Option Dying)(d:Deferred)(w:World):w.drawn<=(gw (callDeferred p fr callers dying d w)).drawn:=by
 unfold callDeferred;simp only[Sem.runT_eq,oF];repeat' first
  |exact aC _
  |exact dx (by assumption)
  |exact dJ (by assumption)
  |exact kQ ..
  |exact cO (dJ (by assumption)) (kQ ..)
  |(rw[kP];exact dJ (by assumption))
  |(rw[kP];exact aC _)
  |(rw[oF];first|exact aC _|exact dx (by assumption)|exact dJ (by assumption)|exact cO (dJ (by assumption)) (kQ ..)|(rw[kP];exact dJ (by assumption))|(rw[iR];exact dx (by assumption))|(rw[iR];exact aC _)|fail)
  |(rw[iR];exact dx (by assumption))
  |(rw[iR];exact aC _)
  |(refine cO (dx (by assumption)) ?_;exact aC _)
  |split
theorem ZI(p:Program)(main:Bool)(fr:Frame)(callers:List Frame)(dying:Option Dying)(w:World):w.drawn<=(gw (unwind p main fr callers dying w)).drawn:=by
 unfold unwind;simp only[Sem.runT_eq,oF];repeat' first
  |exact ZH ..
  |exact aC _
  |exact dx (by assumption)
  |exact dJ (by assumption)
  |exact kQ ..
  |exact cO (dJ (by assumption)) (kQ ..)
  |(rw[kP];exact dJ (by assumption))
  |(rw[kP];exact aC _)
  |(rw[oF];first|exact aC _|exact dx (by assumption)|exact dJ (by assumption)|exact cO (dJ (by assumption)) (kQ ..)|(rw[kP];exact dJ (by assumption))|(rw[iR];exact dx (by assumption))|(rw[iR];exact aC _)|fail)
  |(rw[iR];exact dx (by assumption))
  |(rw[iR];exact aC _)
  |(refine cO (dx (by assumption)) ?_;exact aC _)
  |split
theorem Pf(p:Program)(fr:Frame)(callers:List Frame)(dying:Option Dying)(g:Nat)(w:World):w.drawn<=(gw (early p fr callers dying g w)).drawn:=by
 unfold early;simp only[];repeat' first
  |exact aC _
  |exact dx (by assumption)
  |exact dJ (by assumption)
  |exact kQ ..
  |exact cO (dJ (by assumption)) (kQ ..)
  |(rw[kP];exact dJ (by assumption))
  |(rw[kP];exact aC _)
  |(rw[oF];first|exact aC _|exact dx (by assumption)|exact dJ (by assumption)|exact cO (dJ (by assumption)) (kQ ..)|(rw[kP];exact dJ (by assumption))|(rw[iR];exact dx (by assumption))|(rw[iR];exact aC _)|fail)
  |(rw[iR];exact dx (by assumption))
  |(rw[iR];exact aC _)
  |(refine cO (dx (by assumption)) ?_;exact aC _)
  |split
theorem EQ(p:Program)(l:Bool)(fr:Frame)(callers:List Frame)(dying:Option Dying)(s:Sem Next)(w:World):w.drawn<=(gw (Go.stepG.apply p l fr callers dying s w)).drawn:=by
 unfold Go.stepG.apply;have h0:(if l=true then s.runT p w #[]else(s.run p w, #[])).1=s.run p w:=by split<;>simp
 generalize hr:(if l=true then s.runT p w #[]else(s.run p w, #[]))=re at h0;obtain⟨r,es⟩:=re;dsimp only at h0;subst h0;simp only[oF];repeat' first
  |exact cO (dJ (by assumption)) (Pf ..)
  |(rw[oF];exact cO (dJ (by assumption)) (Pf ..))
  |exact aC _
  |exact dx (by assumption)
  |exact dJ (by assumption)
  |exact kQ ..
  |exact cO (dJ (by assumption)) (kQ ..)
  |(rw[kP];exact dJ (by assumption))
  |(rw[kP];exact aC _)
  |(rw[oF];first|exact aC _|exact dx (by assumption)|exact dJ (by assumption)|exact cO (dJ (by assumption)) (kQ ..)|(rw[kP];exact dJ (by assumption))|(rw[iR];exact dx (by assumption))|(rw[iR];exact aC _)|fail)
  |(rw[iR];exact dx (by assumption))
  |(rw[iR];exact aC _)
  |(refine cO (dx (by assumption)) ?_;exact aC _)
  |split
theorem ZJ(p:Program)(l:Bool)(fr:Frame)(callers:List Frame)(dying:Option Dying)(w:World):w.drawn<=(gw (Go.stepG.oper p l fr callers dying w)).drawn:=by
 unfold Go.stepG.oper;repeat' first
  |exact aC _
  |exact EQ ..
  |split
theorem ZK(p:Program)(main l:Bool)(fr:Frame)(callers:List Frame)(dying:Option Dying)(w:World):w.drawn<=(gw (Go.stepG.exec p main l fr callers dying w)).drawn:=by
 unfold Go.stepG.exec;unfold Option.elim;simp only[Sem.runT_eq,oF];repeat' first
  |exact cO (dx (by assumption)) (EQ ..)
  |exact EQ ..
  |exact ZJ ..
  |(rw[oF];exact cO (dx (by assumption)) (EQ ..))
  |exact aC _
  |exact dx (by assumption)
  |exact dJ (by assumption)
  |exact kQ ..
  |exact cO (dJ (by assumption)) (kQ ..)
  |(rw[kP];exact dJ (by assumption))
  |(rw[kP];exact aC _)
  |(rw[oF];first|exact aC _|exact dx (by assumption)|exact dJ (by assumption)|exact cO (dJ (by assumption)) (kQ ..)|(rw[kP];exact dJ (by assumption))|(rw[iR];exact dx (by assumption))|(rw[iR];exact aC _)|fail)
  |(rw[iR];exact dx (by assumption))
  |(rw[iR];exact aC _)
  |(refine cO (dx (by assumption)) ?_;exact aC _)
  |split
theorem ZL(p:Program)(main l:Bool)(g:Goroutine)(w:World):w.drawn<=(gw (Go.stepG p main g w l)).drawn:=by
 unfold Go.stepG;repeat' first
  |exact ZG ..
  |exact ZK ..
  |exact ZI ..
  |split
def BB:Stepped->World
 | .next m=>m.world
 | .ended _ w=>w
theorem ZM(p:Program)(rest:Rest)(gs:Array Goroutine)(i:Nat)(g:Goroutine)(cases:Array CommCase)(blocking:Bool)
 (shape:CommShape) (w:World):w.drawn<=(BB (communicate p rest gs i g cases blocking shape w).1).drawn:=by
 have ZN:∀w',waitingAt rest cases w=some w'->w'.drawn=w.drawn:=λw' h=>by
  unfold waitingAt at h;repeat' first
   |(cases h;done)
   |(injection h with h;rw[<- h])
   |split at h
 unfold communicate;simp only[];repeat' first
  |exact aC _
  |exact dx (by assumption)
  |exact dJ (by assumption)
  |exact Nat.le_of_eq (ZN _ (by assumption)).symm
  |(refine cO (dx (by assumption)) ?_;first|exact aC _|exact dx (by assumption)|exact dJ (by assumption)|(refine cO (dx (by assumption)) ?_;exact aC _)|fail)
  |split
theorem Pg(p:Program)(gs:Array Goroutine)(rest:Rest)(w:World):w.drawn<=(BB (look p gs rest w)).drawn:=by
 unfold look;simp only[];repeat' first
  |exact aC _
  |exact dx (by assumption)
  |exact dJ (by assumption)
  |(refine cO (dx (by assumption)) ?_;exact aC _)
  |split
theorem ZO(w:World)(c:Nat):(drain w c).2.drawn=w.drawn:=by
 unfold drain;split<;>rfl
theorem Ph(m:Machine)(k:Nat)(t:Timer)(a b:Nat):(retime m k t a b).2.world.drawn=m.world.drawn:=by
 unfold retime;cases hc:t.chan with
 |none=>rfl
 |some c=>exact ZO _ _
theorem ZP{m m':Machine}{var:Addr}(h:timerOp.opened m var=some m'):m'.world.drawn=m.world.drawn:=by
 unfold timerOp.opened at h;repeat' first
  |(cases h;done)
  |(injection h with h;rw[<- h];done)
  |(injection h with h;rw[<- h])
  |split at h
theorem Pj{m m':Machine}{v:Value}{var:Addr}{f:Nat->Timer->Value×Machine}(M:Machine)(hf:∀k t,(f k t).2.world.drawn=M.world.drawn)(h:timerOp.named m var f=.ok (v,m')):m'.world.drawn=M.world.drawn:=by
 unfold timerOp.named at h;split at h
 ·rename_i k _;injection h with h;have:=hf k (m.rest.timers.getD k default);rw[h]at this;exact this
 ·cases h
theorem ZQ{m m':Machine}{op:TimerOp}{v:Value}(h:timerOp m op=.ok (v,m')):m'.world.drawn=m.world.drawn:=by
 unfold timerOp at h;simp only[]at h;split at h
 ·split at h
  ·injection h with h;injection h with _ h;rw[<- h];rfl
  ·split at h
   ·split at h
    ·cases h
    ·injection h with h;injection h with _ h;rw[<- h]
   ·cases h
 ·exact Pj m (λk t=>Ph ..) h
 ·split at h
  ·rename_i m2 h2;exact(Pj m2 (λk t=>Ph ..) h).trans (ZP h2)
  ·cases h
 ·injection h with h;injection h with _ h;rw[<- h];rfl
theorem ZR(p:Program)(m:Machine)(k:Nat):m.world.drawn<=(BB (serve p m k)).drawn:=by
 unfold serve;simp only[];repeat' first
  |exact aC _
  |split
theorem ZT(p:Program)(m:Machine)(i:Nat)(l:Bool):m.world.drawn<=(BB (runT p m i l).1).drawn:=by
 simp only[runT];generalize m.gs.swapAt! _ _=gg;have hs:=ZL p (i==0) l gg.1 m.world;generalize Go.stepG p _ gg.1 m.world l=s at hs;cases s with
 |go g w es=>exact hs
 |comm g cs b sh w es=>exact cO hs (ZM ..)
 |spawn g c w es=>exact hs
 |count g w es=>
  simp only[];split
  ·exact hs
  ·exact hs
 |timer g op w es=>
  simp only[];split
  ·rename_i h;have:=ZQ h;refine cO hs (Nat.le_of_eq this.symm)
  ·split
   ·rename_i h;have e:_=gw _:=congrArg gw h;rw[Pd]at e;dsimp only[gw]at e;subst e;exact hs
   ·exact hs
  ·exact hs
  ·exact hs
 |alone g on w es=>exact hs
 |newcoro g c d w es=>exact hs
 |coroswitch g c ex w es=>
  simp only[];split
  ·exact hs
  ·split
   ·rename_i h;have e:_=gw _:=congrArg gw h;rw[Pd]at e;dsimp only[gw]at e;subst e;exact hs
   ·exact hs
  ·exact hs
 |collect g w es=>exact cO hs (Pg ..)
 |watch g w es=>exact hs
 |ended o w es=>exact hs
def Jm:Move->World
 | .goroutine m _=>m.world
 | .machine s _=>BB s
theorem ER{w:World}{gs:Array Goroutine}{rest:Rest}{t x:Nat}(h:(Machine.advanceTo {world:=w,gs:=gs,rest:=rest} t).world.drawn<=x):w.drawn<=x:=h
theorem Jn(p:Program)(m:Machine):m.world.drawn<=(Jm (askOn p m)).drawn:=by
 unfold askOn;simp only[];repeat' first
  |exact aC _
  |exact dx (by assumption)
  |exact dJ (by assumption)
  |(refine cO (dx (by assumption)) ?_;first|exact aC _|exact dx (by assumption)|exact dJ (by assumption)|exact ZR p {m with world:=_} _|(refine cO (dx (by assumption)) ?_;first|exact aC _|exact dx (by assumption)|exact dJ (by assumption)|exact ER (dJ (by assumption))|exact ER (dx (by assumption))|exact ER (cO (dx (by assumption)) (dx (by assumption)))|exact ER (cO (dx (by assumption)) (dJ (by assumption)))|(refine cO (dx (by assumption)) ?_;first|exact aC _|exact dx (by assumption)|exact dJ (by assumption)|fail)|fail)|fail)
  |split
 ·rename_i hE;exact cO (dx (by assumption)) (cO (Pe _ _ _ _) (Nat.le_of_eq (congrArg (λs=>(gw s).drawn) hE)))
 ·rename_i hE;obtain⟨o',w',es',e⟩:=ZE _ _ _ _;exact absurd e (hE o' w' es')
theorem Jo(p:Program)(m:Machine):m.world.drawn<=(Jm (ask p m)).drawn:=by
 unfold ask;split
 ·split
  ·rename_i h;exact dJ h
  ·rename_i h;have h1:=dx h;have h2:=Pg p m.gs m.rest ‹World›;split
   ·rename_i hl;rw[hl]at h2;exact cO h1 (cO h2 (Jn ..))
   ·exact cO h1 h2
  ·rename_i h;exact cO (dx h) (Jn p {m with world:=_})
 ·exact Jn ..
theorem ZU(p:Program)(m:Machine):m.world.drawn<=(Jm (move p m)).drawn:=by
 unfold move;repeat' first
  |exact aC _
  |exact Jo p m
  |exact Jo p {world:=m.world,gs:=m.gs,rest:=_}
  |(generalize hM:Machine.mk _ _ _=M;have hw:M.world=m.world:=by rw[<- hM]
    rw[<- hw];exact Jo p M)
  |split
theorem ZV{p:Program}{m m':Machine}(h:step p m=.next m'):m.world.drawn<=m'.world.drawn:=by
 have h1:=ZU p m;unfold step stepT at h;split at h
 ·rename_i m1 i hm;rw[hm]at h1;have h2:=ZT p m1 i true;rw[h]at h2;exact cO h1 h2
 ·rename_i s ops hm;rw[hm]at h1;dsimp only at h;rw[h]at h1;exact h1
theorem Pk{p:Program}:∀{n:Nat} {m m':Machine},runN p n m=.next m'->m.world.drawn<=m'.world.drawn
 |0,m,m',h=>by cases h;exact aC _
 |n+1,m,m',h=>by
  unfold runN at h;split at h
  ·rename_i hs;exact cO (ZV hs) (Pk h)
  ·rename_i hs;exact absurd h (hs m')
theorem ZW{f:FuncId}{args:Array Value}{w:World}{R:Ending->World->Prop}(h:Calls P f args w R)(hR:∀e w',R e w'->e≠.outgrown):Calls P f args w (λe w'=>R e w'/\w.drawn<=w'.drawn):=λcs=>by
 obtain⟨e,w',fr,h1,h2,h3⟩:=h cs;refine⟨e,w',fr,⟨h1,?_⟩,h2,h3⟩;have hs:Steps P (lone (Frame.enter P f args .normal) cs w) (lone fr cs w'):=by
  cases e with
  |returned v=>exact h2
  |panicked c=>exact h2
  |outgrown=>exact absurd rfl (hR _ _ h1)
 obtain⟨n,hn⟩:=hs;exact Pk hn
