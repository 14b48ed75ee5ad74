/-
  The model's machine never takes a draw back: what a call draws is drawn behind what was drawn.
-/
import Derived.Test.YtbdaaopebgcnaaaGreatDoorIdealAM
import Derived.Calls
import Derived.StepT
import Derived.Lone
set_option linter.all false
set_option maxHeartbeats 4000000
namespace Go.Ideal
variable {P:Program}
theorem LQ{α:Type}:∀(a:Ask α) (w:World),w.drawn<=(w.ask a).2.drawn
 | .done a,w=>aG _
 | .ask what range k,w=>by
   unfold World.ask;dsimp only;split
   ·exact LQ (k 0) w
   ·exact dB (wB _) (LQ _ {w with drawn:=w.drawn+1})
theorem RX(w:World)(c:Sys):w.drawn<=(w.sys c).2.drawn:=by
 have:=LQ (Kernel.perform c w.os) w;unfold World.sys;split
 ·exact aG _
 ·rename_i h;rw[h]at this;exact this
theorem acs{w w':World}{a:Addr}{v:Value}{b:Bool}{l:List Addr}(h:w.farStore P a v b=.ok (w',l)):w'.drawn=w.drawn:=by
 unfold World.farStore at h;split at h
 ·split at h
  ·rename_i r hr;injection h with h;subst h;unfold World.viewStore at hr;simp only[bind,Except.bind,pure,Except.pure,throw,throwThe,MonadExceptOf.throw]at hr;repeat' split at hr
   all_goals first|(cases hr;done)|(injection hr with hr;injection hr with hr _;rw[<- hr])
  ·cases h
 ·cases h
def RY{α:Type}:Result α->World
 | .ok _ w=>w
 | .halt _ w=>w
theorem RZ{α:Type}:∀(s:Sem α) (w:World),w.drawn<=(RY (s.run P w)).drawn:=by
 intro s;induction s with
 |pure a=>intro w;exact aG _
 |load m a k ih=>
  intro w;unfold Sem.run;split
  ·exact ih _ _
  ·split
   ·exact ih _ _
   ·exact aG _
 |store m a v k ih=>
  intro w;have hmain:∀v:Value,w.drawn<=(RY (match w.cell? a with
   |some _=>if w.frozen? a then .halt (.unsupported (.unsafePointer "a write to bytes that a string shares")) w else k.run P (w.setCell a v)
   |none=>match w.farStore P a v (m==.atomic)with
    | .ok (w,_)=>k.run P w
    | .error h=>.halt h w)).drawn:=λv=>by
   split
   ·split
    ·exact aG _
    ·show(w.setCell a v).drawn<=_;exact ih _
   ·split
    ·rename_i hf;rw[<- acs hf];exact ih _
    ·exact aG _
  cases v<;>first|exact hmain _|exact aG _
 |new o k ih=>intro w;exact ih _ {w with heap:=w.heap.push o}
 |shape r k ih=>intro w;exact ih _ _
 |freeze a n k ih=>
  intro w;refine dB (Nat.le_of_eq ?_) (ih (w.freeze a n));unfold World.freeze;split<;>rfl
 |frozen a k ih=>intro w;exact ih _ _
 |getObj r k ih=>
  intro w;unfold Sem.run;split
  ·exact aG _
  ·exact ih _ _
  ·exact aG _
 |setObj r o k ih=>
  intro w;unfold Sem.run;split
  ·exact aG _
  ·exact ih {w with heap:=w.heap.setIfInBounds r o}
  ·exact aG _
 |choose q k ih=>
  intro w;unfold Sem.run;split
  ·exact ih _ _
  ·exact dB (wB _) (ih _ {w with drawn:=w.drawn+1})
 |sys c k ih=>intro w;exact dB (RX w c) (ih _ _)
 |program k ih=>intro w;exact ih _ _
 |mark m k ih=>intro w;exact ih _
 |halt h=>intro w;exact aG _
theorem dP{α:Type}{s:Sem α}{w w':World}{a:α}(h:s.run P w=.ok a w'):w.drawn<=w'.drawn:=by
 have:=RZ (P:=P) s w;rw[h]at this;exact this
theorem dZ{α:Type}{s:Sem α}{w w':World}{a:Halt}(h:s.run P w=.halt a w'):w.drawn<=w'.drawn:=by
 have:=RZ (P:=P) s w;rw[h]at this;exact this
def gw:GStep->World
 | .go _ w _=>w
 | .comm _ _ _ _ w _=>w
 | .spawn _ _ w _=>w
 | .count _ w _=>w
 | .timer _ _ w _=>w
 | .alone _ _ w _=>w
 | .newcoro _ _ _ w _=>w
 | .coroswitch _ _ _ w _=>w
 | .collect _ w _=>w
 | .watch _ w _=>w
 | .ended _ w _=>w
theorem qp(es:Array Event)(s:GStep):gw (GStep.after es s)=gw s:=by cases s<;>rfl
theorem R3(fr:Frame)(m:String)(w:World):gw (endThrow fr m w)=w:=rfl
theorem R4(w:World)(fd:Nat)(text:ByteArray)(o:Outcome):w.drawn<=(gw (endWith w fd text o)).drawn:=by
 have:=RX w (.write fd text);unfold endWith;simp only[];split
 ·rename_i h;rw[h]at this;split
  ·exact this
  ·split<;>exact this
 ·rename_i h;rw[h]at this;exact this
 ·rename_i h;have h2:((w.sys (.write fd text)).2).drawn=_:=congrArg (λx:SysRet×World=>x.2.drawn) h;rw[h2]at this;split<;>exact this
theorem acu(w:World)(fd:Nat)(text:ByteArray)(o:Outcome):∃o' w' es,endWith w fd text o=.ended o' w' es:=by
 unfold endWith;simp only[];split
 ·split
  ·exact⟨_,_,_,rfl⟩
  ·split<;>exact⟨_,_,_,rfl⟩
 ·exact⟨_,_,_,rfl⟩
 ·split<;>exact⟨_,_,_,rfl⟩
theorem lZ(p:Program)(fr:Frame)(v:Value)(w:World):gw (endPrinting p fr v w)=w:=by
 unfold endPrinting;simp only[];split<;>rfl
theorem l5(p:Program)(fr:Frame)(callers:List Frame)(dying:Option Dying)(m:String)(w:World):w.drawn<=(gw (endFatal p fr callers dying m w)).drawn:=by
 unfold endFatal;simp only[];split
 ·rename_i h;exact dP h
 ·rename_i h;exact dZ h
 ·rename_i h;exact dZ h
theorem acv(p:Program)(fr:Frame)(d:Dying)(f:Fatal)(w:World):w.drawn<=(gw (writeOn p fr d f w)).drawn:=by
 unfold writeOn;simp only[Sem.runT_eq];repeat' first
  |exact aG _
  |(rename_i h;simp only[bK]at h;exact dP h.1)
  |(rename_i h;simp only[bK]at h;exact dZ h.1)
  |split
theorem jC(p:Program)(main:Bool)(fr:Frame)(callers:List Frame)(dying:Option Dying)(v:Value)(w:World):gw (doReturn p main fr callers dying v w)=w:=by
 unfold doReturn;simp only[];repeat' first
  |rfl
  |split
theorem acw(p:Program)(fr:Frame)(d:Dying)(w:World):w.drawn<=(gw (die p fr d w)).drawn:=by
 unfold die;simp only[Sem.runT_eq,qp];repeat' first
  |exact acv _ _ _ _ _
  |exact R4 _ _ _ _
  |exact aG _
  |exact dP (by assumption)
  |exact dZ (by assumption)
  |exact l5 ..
  |exact dB (dZ (by assumption)) (l5 ..)
  |(rw[lZ];exact dZ (by assumption))
  |(rw[lZ];exact aG _)
  |(rw[qp];first|exact aG _|exact dP (by assumption)|exact dZ (by assumption)|exact dB (dZ (by assumption)) (l5 ..)|(rw[lZ];exact dZ (by assumption))|(rw[jC];exact dP (by assumption))|(rw[jC];exact aG _)|fail)
  |(rw[jC];exact dP (by assumption))
  |(rw[jC];exact aG _)
  |(refine dB (dP (by assumption)) ?_;exact aG _)
  |split
theorem acy(p:Program)(fr:Frame)(callers:List Frame)(dying:Option Dying)(d:Deferred)(w:World):w.drawn<=(gw (callDeferred p fr callers dying d w)).drawn:=by
 unfold callDeferred;simp only[Sem.runT_eq,qp];repeat' first
  |exact aG _
  |exact dP (by assumption)
  |exact dZ (by assumption)
  |exact l5 ..
  |exact dB (dZ (by assumption)) (l5 ..)
  |(rw[lZ];exact dZ (by assumption))
  |(rw[lZ];exact aG _)
  |(rw[qp];first|exact aG _|exact dP (by assumption)|exact dZ (by assumption)|exact dB (dZ (by assumption)) (l5 ..)|(rw[lZ];exact dZ (by assumption))|(rw[jC];exact dP (by assumption))|(rw[jC];exact aG _)|fail)
  |(rw[jC];exact dP (by assumption))
  |(rw[jC];exact aG _)
  |(refine dB (dP (by assumption)) ?_;exact aG _)
  |split
theorem acz(p:Program)(main:Bool)(fr:Frame)(callers:List Frame)(dying:Option Dying)(w:World):w.drawn<=(gw (unwind p main fr callers dying w)).drawn:=by
 unfold unwind;simp only[Sem.runT_eq,qp];repeat' first
  |exact acy ..
  |exact aG _
  |exact dP (by assumption)
  |exact dZ (by assumption)
  |exact l5 ..
  |exact dB (dZ (by assumption)) (l5 ..)
  |(rw[lZ];exact dZ (by assumption))
  |(rw[lZ];exact aG _)
  |(rw[qp];first|exact aG _|exact dP (by assumption)|exact dZ (by assumption)|exact dB (dZ (by assumption)) (l5 ..)|(rw[lZ];exact dZ (by assumption))|(rw[jC];exact dP (by assumption))|(rw[jC];exact aG _)|fail)
  |(rw[jC];exact dP (by assumption))
  |(rw[jC];exact aG _)
  |(refine dB (dP (by assumption)) ?_;exact aG _)
  |split
theorem R5(p:Program)(fr:Frame)(callers:List Frame)(dying:Option Dying)(g:Nat)(w:World):w.drawn<=(gw (early p fr callers dying g w)).drawn:=by
 unfold early;simp only[];repeat' first
  |exact aG _
  |exact dP (by assumption)
  |exact dZ (by assumption)
  |exact l5 ..
  |exact dB (dZ (by assumption)) (l5 ..)
  |(rw[lZ];exact dZ (by assumption))
  |(rw[lZ];exact aG _)
  |(rw[qp];first|exact aG _|exact dP (by assumption)|exact dZ (by assumption)|exact dB (dZ (by assumption)) (l5 ..)|(rw[lZ];exact dZ (by assumption))|(rw[jC];exact dP (by assumption))|(rw[jC];exact aG _)|fail)
  |(rw[jC];exact dP (by assumption))
  |(rw[jC];exact aG _)
  |(refine dB (dP (by assumption)) ?_;exact aG _)
  |split
theorem Hg(p:Program)(l:Bool)(fr:Frame)(callers:List Frame)(dying:Option Dying)(s:Sem Next)(w:World):w.drawn<=(gw (Go.stepG.apply p l fr callers dying s w)).drawn:=by
 unfold Go.stepG.apply;have h0:(if l=true then s.runT p w #[]else(s.run p w, #[])).1=s.run p w:=by split<;>simp
 generalize hr:(if l=true then s.runT p w #[]else(s.run p w, #[]))=re at h0;obtain⟨r,es⟩:=re;dsimp only at h0;subst h0;simp only[qp];repeat' first
  |exact dB (dZ (by assumption)) (R5 ..)
  |(rw[qp];exact dB (dZ (by assumption)) (R5 ..))
  |exact aG _
  |exact dP (by assumption)
  |exact dZ (by assumption)
  |exact l5 ..
  |exact dB (dZ (by assumption)) (l5 ..)
  |(rw[lZ];exact dZ (by assumption))
  |(rw[lZ];exact aG _)
  |(rw[qp];first|exact aG _|exact dP (by assumption)|exact dZ (by assumption)|exact dB (dZ (by assumption)) (l5 ..)|(rw[lZ];exact dZ (by assumption))|(rw[jC];exact dP (by assumption))|(rw[jC];exact aG _)|fail)
  |(rw[jC];exact dP (by assumption))
  |(rw[jC];exact aG _)
  |(refine dB (dP (by assumption)) ?_;exact aG _)
  |split
theorem acA(p:Program)(l:Bool)(fr:Frame)(callers:List Frame)(dying:Option Dying)(w:World):w.drawn<=(gw (Go.stepG.oper p l fr callers dying w)).drawn:=by
 unfold Go.stepG.oper;repeat' first
  |exact aG _
  |exact Hg ..
  |split
theorem acB(p:Program)(main l:Bool)(fr:Frame)(callers:List Frame)(dying:Option Dying)(w:World):w.drawn<=(gw (Go.stepG.exec p main l fr callers dying w)).drawn:=by
 unfold Go.stepG.exec;unfold Option.elim;simp only[Sem.runT_eq,qp];repeat' first
  |exact dB (dP (by assumption)) (Hg ..)
  |exact Hg ..
  |exact acA ..
  |(rw[qp];exact dB (dP (by assumption)) (Hg ..))
  |exact aG _
  |exact dP (by assumption)
  |exact dZ (by assumption)
  |exact l5 ..
  |exact dB (dZ (by assumption)) (l5 ..)
  |(rw[lZ];exact dZ (by assumption))
  |(rw[lZ];exact aG _)
  |(rw[qp];first|exact aG _|exact dP (by assumption)|exact dZ (by assumption)|exact dB (dZ (by assumption)) (l5 ..)|(rw[lZ];exact dZ (by assumption))|(rw[jC];exact dP (by assumption))|(rw[jC];exact aG _)|fail)
  |(rw[jC];exact dP (by assumption))
  |(rw[jC];exact aG _)
  |(refine dB (dP (by assumption)) ?_;exact aG _)
  |split
theorem acC(p:Program)(main l:Bool)(g:Goroutine)(w:World):w.drawn<=(gw (Go.stepG p main g w l)).drawn:=by
 unfold Go.stepG;repeat' first
  |exact acw ..
  |exact acB ..
  |exact acz ..
  |split
def Dm:Stepped->World
 | .next m=>m.world
 | .ended _ w=>w
theorem acD(p:Program)(rest:Rest)(gs:Array Goroutine)(i:Nat)(g:Goroutine)(cases:Array CommCase)(blocking:Bool)
 (shape:CommShape) (w:World):w.drawn<=(Dm (communicate p rest gs i g cases blocking shape w).1).drawn:=by
 have acE:∀w',waitingAt rest cases w=some w'->w'.drawn=w.drawn:=λw' h=>by
  unfold waitingAt at h;repeat' first
   |(cases h;done)
   |(injection h with h;rw[<- h])
   |split at h
 unfold communicate;simp only[];repeat' first
  |exact aG _
  |exact dP (by assumption)
  |exact dZ (by assumption)
  |exact Nat.le_of_eq (acE _ (by assumption)).symm
  |(refine dB (dP (by assumption)) ?_;first|exact aG _|exact dP (by assumption)|exact dZ (by assumption)|(refine dB (dP (by assumption)) ?_;exact aG _)|fail)
  |split
theorem R6(p:Program)(gs:Array Goroutine)(rest:Rest)(w:World):w.drawn<=(Dm (look p gs rest w)).drawn:=by
 unfold look;simp only[];repeat' first
  |exact aG _
  |exact dP (by assumption)
  |exact dZ (by assumption)
  |(refine dB (dP (by assumption)) ?_;exact aG _)
  |split
theorem acF(w:World)(c:Nat):(drain w c).2.drawn=w.drawn:=by
 unfold drain;split<;>rfl
theorem R7(m:Machine)(k:Nat)(t:Timer)(a b:Nat):(retime m k t a b).2.world.drawn=m.world.drawn:=by
 unfold retime;cases hc:t.chan with
 |none=>rfl
 |some c=>exact acF _ _
theorem acG{m m':Machine}{var:Addr}(h:timerOp.opened m var=some m'):m'.world.drawn=m.world.drawn:=by
 unfold timerOp.opened at h;repeat' first
  |(cases h;done)
  |(injection h with h;rw[<- h];done)
  |(injection h with h;rw[<- h])
  |split at h
theorem R8{m m':Machine}{v:Value}{var:Addr}{f:Nat->Timer->Value×Machine}(M:Machine)(hf:∀k t,(f k t).2.world.drawn=M.world.drawn)(h:timerOp.named m var f=.ok (v,m')):m'.world.drawn=M.world.drawn:=by
 unfold timerOp.named at h;split at h
 ·rename_i k _;injection h with h;have:=hf k (m.rest.timers.getD k default);rw[h]at this;exact this
 ·cases h
theorem acH{m m':Machine}{op:TimerOp}{v:Value}(h:timerOp m op=.ok (v,m')):m'.world.drawn=m.world.drawn:=by
 unfold timerOp at h;simp only[]at h;split at h
 ·split at h
  ·injection h with h;injection h with _ h;rw[<- h];rfl
  ·split at h
   ·split at h
    ·cases h
    ·injection h with h;injection h with _ h;rw[<- h]
   ·cases h
 ·exact R8 m (λk t=>R7 ..) h
 ·split at h
  ·rename_i m2 h2;exact(R8 m2 (λk t=>R7 ..) h).trans (acG h2)
  ·cases h
 ·injection h with h;injection h with _ h;rw[<- h];rfl
theorem acI(p:Program)(m:Machine)(k:Nat):m.world.drawn<=(Dm (serve p m k)).drawn:=by
 unfold serve;simp only[];repeat' first
  |exact aG _
  |split
theorem acJ(p:Program)(m:Machine)(i:Nat)(l:Bool):m.world.drawn<=(Dm (runT p m i l).1).drawn:=by
 simp only[runT];generalize m.gs.swapAt! _ _=gg;have hs:=acC p (i==0) l gg.1 m.world;generalize Go.stepG p _ gg.1 m.world l=s at hs;cases s with
 |go g w es=>exact hs
 |comm g cs b sh w es=>exact dB hs (acD ..)
 |spawn g c w es=>exact hs
 |count g w es=>
  simp only[];split
  ·exact hs
  ·exact hs
 |timer g op w es=>
  simp only[];split
  ·rename_i h;have:=acH h;refine dB hs (Nat.le_of_eq this.symm)
  ·split
   ·rename_i h;have e:_=gw _:=congrArg gw h;rw[R3]at e;dsimp only[gw]at e;subst e;exact hs
   ·exact hs
  ·exact hs
  ·exact hs
 |alone g on w es=>exact hs
 |newcoro g c d w es=>exact hs
 |coroswitch g c ex w es=>
  simp only[];split
  ·exact hs
  ·split
   ·rename_i h;have e:_=gw _:=congrArg gw h;rw[R3]at e;dsimp only[gw]at e;subst e;exact hs
   ·exact hs
  ·exact hs
 |collect g w es=>exact dB hs (R6 ..)
 |watch g w es=>exact hs
 |ended o w es=>exact hs
def LU:Move->World
 | .goroutine m _=>m.world
 | .machine s _=>Dm s
theorem Hl{w:World}{gs:Array Goroutine}{rest:Rest}{t x:Nat}(h:(Machine.advanceTo {world:=w,gs:=gs,rest:=rest} t).world.drawn<=x):w.drawn<=x:=h
theorem LV(p:Program)(m:Machine):m.world.drawn<=(LU (askOn p m)).drawn:=by
 unfold askOn;simp only[];repeat' first
  |exact aG _
  |exact dP (by assumption)
  |exact dZ (by assumption)
  |(refine dB (dP (by assumption)) ?_;first|exact aG _|exact dP (by assumption)|exact dZ (by assumption)|exact acI p {m with world:=_} _|(refine dB (dP (by assumption)) ?_;first|exact aG _|exact dP (by assumption)|exact dZ (by assumption)|exact Hl (dZ (by assumption))|exact Hl (dP (by assumption))|exact Hl (dB (dP (by assumption)) (dP (by assumption)))|exact Hl (dB (dP (by assumption)) (dZ (by assumption)))|(refine dB (dP (by assumption)) ?_;first|exact aG _|exact dP (by assumption)|exact dZ (by assumption)|fail)|fail)|fail)
  |split
 ·rename_i hE;exact dB (dP (by assumption)) (dB (R4 _ _ _ _) (Nat.le_of_eq (congrArg (λs=>(gw s).drawn) hE)))
 ·rename_i hE;obtain⟨o',w',es',e⟩:=acu _ _ _ _;exact absurd e (hE o' w' es')
theorem LW(p:Program)(m:Machine):m.world.drawn<=(LU (ask p m)).drawn:=by
 unfold ask;split
 ·split
  ·rename_i h;exact dZ h
  ·rename_i h;have h1:=dP h;have h2:=R6 p m.gs m.rest ‹World›;split
   ·rename_i hl;rw[hl]at h2;exact dB h1 (dB h2 (LV ..))
   ·exact dB h1 h2
  ·rename_i h;exact dB (dP h) (LV p {m with world:=_})
 ·exact LV ..
theorem acK(p:Program)(m:Machine):m.world.drawn<=(LU (move p m)).drawn:=by
 unfold move;repeat' first
  |exact aG _
  |exact LW p m
  |exact LW p {world:=m.world,gs:=m.gs,rest:=_}
  |(generalize hM:Machine.mk _ _ _=M;have hw:M.world=m.world:=by rw[<- hM]
    rw[<- hw];exact LW p M)
  |split
theorem acL{p:Program}{m m':Machine}(h:step p m=.next m'):m.world.drawn<=m'.world.drawn:=by
 have h1:=acK p m;unfold step stepT at h;split at h
 ·rename_i m1 i hm;rw[hm]at h1;have h2:=acJ p m1 i true;rw[h]at h2;exact dB h1 h2
 ·rename_i s ops hm;rw[hm]at h1;dsimp only at h;rw[h]at h1;exact h1
theorem R9{p:Program}:∀{n:Nat} {m m':Machine},runN p n m=.next m'->m.world.drawn<=m'.world.drawn
 |0,m,m',h=>by cases h;exact aG _
 |n+1,m,m',h=>by
  unfold runN at h;split at h
  ·rename_i hs;exact dB (acL hs) (R9 h)
  ·rename_i hs;exact absurd h (hs m')
theorem acM{f:FuncId}{args:Array Value}{w:World}{R:Ending->World->Prop}(h:Calls P f args w R)(hR:∀e w',R e w'->e≠.outgrown):Calls P f args w (λe w'=>R e w'/\w.drawn<=w'.drawn):=λcs=>by
 obtain⟨e,w',fr,h1,h2,h3⟩:=h cs;refine⟨e,w',fr,⟨h1,?_⟩,h2,h3⟩;have hs:Steps P (lone (Frame.enter P f args .normal) cs w) (lone fr cs w'):=by
  cases e with
  |returned v=>exact h2
  |panicked c=>exact h2
  |outgrown=>exact absurd rfl (hR _ _ h1)
 obtain⟨n,hn⟩:=hs;exact R9 hn
