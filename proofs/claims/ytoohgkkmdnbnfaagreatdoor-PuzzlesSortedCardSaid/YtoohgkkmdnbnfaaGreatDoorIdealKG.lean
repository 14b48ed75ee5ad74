/-
  The ideal machine, 53: the road through what needs no thought; lists put in order.
-/
import Derived.Test.YtoohgkkmdnbnfaaGreatDoorIdealJG
import Derived.Test.YtoohgkkmdnbnfaaGreatDoorIdealIG
set_option linter.all false
namespace Go.Ideal
theorem mh{p:Prop}(h:p:=by repeat (first|exact Sub.nil|(apply Sub.cons;(focus ((repeat (first|with_reducible exact bC .. |with_reducible apply aY));first|done|fail)))|exact fU.sub (by repeat (first|with_reducible exact fU.here|with_reducible apply fU.cons|with_reducible apply fU.app)))):p:=h
theorem mi{p:Prop}(h:p:=by repeat (first|exact bG.nil|(apply bG.cons;(focus (repeat (first|with_reducible exact ax.here|with_reducible apply ax.there|with_reducible apply ax.app))))|with_reducible exact bG.all _|with_reducible exact bG.self _ _|with_reducible apply bG.there)):p:=h
theorem eU{p:Prop}(h:p:=by repeat (first|with_reducible exact ax.here|with_reducible apply ax.there|with_reducible apply ax.app)):p:=h
theorem EG{p:Prop}(h:p:=by repeat (first|exact RS.nil|(apply RS.tmp;(conv=>lhs;whnf))|(apply RS.cell1;(focus exact rfl);(focus (repeat (first|with_reducible exact ax.here|with_reducible apply ax.there|with_reducible apply ax.app)));(conv=>lhs;whnf))|(apply RS.nY;(focus exact rfl);(focus (repeat (first|with_reducible exact ax.here|with_reducible apply ax.there|with_reducible apply ax.app)));(conv=>lhs;whnf)))):p:=h
theorem mo{p:Prop}(h:p:=by(repeat (first|with_reducible exact bC .. |with_reducible apply aY));first|done|fail):p:=h
variable {P:Program}
section
variable {B:List Nat} {w0:Wd} {kl:List OA} {F:List ay} {K:KO} {ds:List Tmp} {rest:List aC} {n:Nat} {l:List (Nat×Value)} {D:List Deferred} {pm:Option FrameMode} {ro:Option Nat} {d:Nat} {g:Option (Tmp×Bool)}
theorem MO{x i:Operand}{v:Value}{xs:List Int}{k:Nat}{kk:IntKind}(hn:Nat.blt d n=true)(hg:aT l g=true)(hx:ev l x=v)(hi:ev l i=.int kk (k:Int))(hf:bg fo v xs∈F)(h1:k<xs.length):
 aN (R (λh=>aj P ds (⟨⟨some d,g,.iR 1 x i⟩,[]⟩::rest) (act n l D pm ro) h K) B w0 kl F)
  (∀b o z,xs[k]? =some z->R (λh=>aj P ds rest (act n ((d,.pointer (some ⟨b,o,none⟩))::l) D pm ro) h K) B w0 kl (eT b o [.int .i64 z]::F)):=
 ⟨λr=>(Ez hn hg hx hi hf (by omega) (by omega)).h λb o z hz=>r b o z (by simpa using hz)⟩
theorem MP{x i:Operand}{v:Value}{xs:List Bool}{k:Nat}{kk:IntKind}(hn:Nat.blt d n=true)(hg:aT l g=true)(hx:ev l x=v)(hi:ev l i=.int kk (k:Int))(hf:bg Es v xs∈F)(h1:k<xs.length):
 aN (R (λh=>aj P ds (⟨⟨some d,g,.iR 1 x i⟩,[]⟩::rest) (act n l D pm ro) h K) B w0 kl F)
  (∀b o z,xs[k]? =some z->R (λh=>aj P ds rest (act n ((d,.pointer (some ⟨b,o,none⟩))::l) D pm ro) h K) B w0 kl (eT b o [.bool z]::F)):=
 ⟨λr=>(EA hn hg hx hi hf (by omega) (by omega)).h λb o z hz=>r b o z (by simpa using hz)⟩
end
inductive Fill(ρ:Operand->Value):List Value->List (Nat×Nat×Operand)->List Value->Prop
 |nil {cs:List Value}:Fill ρ cs [] cs
 |cons {cs vs cs' r:List Value} {off size:Nat} {x:Operand} {parts:List (Nat×Nat×Operand)} {v:Value} (h0:ρ x=v) (h1:cellsOf v=some vs) (h2:Nat.beq (bY vs) size=true) (h3:bX cs off vs=some cs') (t:Fill ρ cs' parts r):Fill ρ cs ((off,size,x)::parts) r
theorem Fill.eq{ρ:Operand->Value}:∀{zero:List Value} {parts:List (Nat×Nat×Operand)} {cs:List Value},Fill ρ zero parts cs->iT ρ zero parts=some cs
 |_,_,_,.nil=>rfl
 |cs0,_,_,.cons (off:=off) (size:=size) (x:=x) (parts:=parts) h0 h1 h2 h3 t=>by
  have ih:=t.eq;show(match cellsOf (ρ x)with
   |none=>none
   |some vs=>cond (Nat.beq (bY vs) size) (match bX cs0 off vs with
    |some cs=>iT ρ cs parts
    |none=>none) none)=_
  simp only[h0,h1,h2,h3,cond,ih]
theorem MQ{B:List Nat}{w0:Wd}{kl:List OA}{F:List ay}{K:KO}{ds:List Tmp}{rest:List aC}{n:Nat}{l:List (Nat×Value)}{D:List Deferred}{pm:Option FrameMode}{ro:Option Nat}{d:Nat}{g:Option (Tmp×Bool)}
 {t:TypeId} {len:Nat} {zero cs:List Value} {parts:List (Nat×Nat×Operand)} (hn:Nat.blt d n=true) (hg:aT l g=true) (hx:Fill (ev l) zero parts cs):
 aN (R (λh=>aj P ds (⟨⟨some d,g,.nU t len zero parts⟩,[]⟩::rest) (act n l D pm ro) h K) B w0 kl F)
 (∀b,R (λh=>aj P ds rest (act n ((d,.slice (some ⟨b,0,some 0⟩) len len)::l) D pm ro) h K) B w0 (pt b (.cells cs)::kl) F):=Mm hn hg hx.eq
theorem MS{B:List Nat}{w0:Wd}{kl:List OA}{F:List ay}{K:KO}{ds:List Tmp}{rest:List aC}{n:Nat}{l:List (Nat×Value)}{D:List Deferred}{pm:Option FrameMode}{ro:Option Nat}{d:Nat}{g:Option (Tmp×Bool)}
 {zero cs:List Value} {parts:List (Nat×Nat×Operand)} (hn:Nat.blt d n=true) (hg:aT l g=true) (hx:Fill (ev l) zero parts cs):
 aN (R (λh=>aj P ds (⟨⟨some d,g,.build zero parts⟩,[]⟩::rest) (act n l D pm ro) h K) B w0 kl F) (R (λh=>aj P ds rest (act n ((d,.agg ⟨cs⟩)::l) D pm ro) h K) B w0 kl F):=jb hn hg (LF hx.eq)
theorem qB{B:List Nat}{w0:Wd}{kl:List OA}{F:List ay}{α:Type}{E:Enc α}{v:Value}{xs:List α}{Q:IH->Prop}(hf:bg E v xs∈F)(h:∀a c,v=.slice a xs.length c->R Q B w0 kl F):R Q B w0 kl F:=λw s=>by
 obtain⟨a,c,e⟩:=Ex (s.facts _ hf);exact h a c e w s
section
variable {B:List Nat} {w0:Wd} {kl:List OA} {F:List ay} {K:KO} {ds:List Tmp} {rest:List aC} {n:Nat} {l:List (Nat×Value)} {D:List Deferred} {pm:Option FrameMode} {ro:Option Nat} {t1 t2:Nat}
theorem jI{e:Bool}(h1:e=false->R (λh=>aj P ds rest (act n ((t1,.bool false)::(t2,.bool false)::l) D pm ro) h K) B w0 kl F)(h2:e=true->R (λh=>aj P ds rest (act n ((t1,.bool true)::(t2,.bool true)::l) D pm ro) h K) B w0 kl F):
 R (λh=>aj P ds rest (act n ((t1,.bool e)::(t2,.bool e)::l) D pm ro) h K) B w0 kl F:=by
 cases e
 ·exact h1 rfl
 ·exact h2 rfl
theorem kY{p:Prop}{_:Decidable p}(h1:¬p->R (λh=>aj P ds rest (act n ((t1,.bool false)::(t2,.bool false)::l) D pm ro) h K) B w0 kl F)(h2:p->R (λh=>aj P ds rest (act n ((t1,.bool true)::(t2,.bool true)::l) D pm ro) h K) B w0 kl F):
 R (λh=>aj P ds rest (act n ((t1,.bool (decide p))::(t2,.bool (decide p))::l) D pm ro) h K) B w0 kl F:=
 jI (λe=>h1 (uw e)) (λe=>h2 (jO e))
theorem kZ{p:Prop}{_:Decidable p}(h1:p->R (λh=>aj P ds rest (act n ((t1,.bool false)::(t2,.bool false)::l) D pm ro) h K) B w0 kl F)(h2:¬p->R (λh=>aj P ds rest (act n ((t1,.bool true)::(t2,.bool true)::l) D pm ro) h K) B w0 kl F):
 R (λh=>aj P ds rest (act n ((t1,.bool (!decide p))::(t2,.bool (!decide p))::l) D pm ro) h K) B w0 kl F:=
 jI (λe=>h1 (by simpa using e)) (λe=>h2 (by simpa using e))
end
section
variable {B:List Nat} {w0:Wd} {kl kl':List OA} {F:List ay} {K:KO} {ds:List Tmp} {rest:List aC} {n:Nat} {l:List (Nat×Value)} {D:List Deferred} {pm:Option FrameMode} {ro:Option Nat} {d:Nat} {g:Option (Tmp×Bool)}
theorem MU{x:Operand}{t:TypeId}{v:Value}{cs:List Value}(hn:Nat.blt d n=true)(hg:aT l g=true)(hv:ev l x=v)(hx:cellsOf v=some cs):aN (R (λh=>aj P ds (⟨⟨some d,g,.box x t⟩,[]⟩::rest) (act n l D pm ro) h K) B w0 kl F)
 (∀b,R (λh=>aj P ds rest (act n ((d,.pointer (some ⟨b,0,none⟩))::l) D pm ro) h K) B w0 (pt b (.cells cs)::kl) F):=Ml hn hg (by rw[hv];exact hx)
theorem MV{x y:Operand}{b o m:Nat}{cs vs c:List Value}{v:Value}(hg:aT l g=true)(hx:ev l x=.pointer (some ⟨b,o,none⟩))(hw:ev l y=v)(hy:cellsOf v=some vs)(hm:Nat.beq (bY vs) m=true)
 (hk:ax (pt b (.cells cs)) kl kl') (hv:bX cs o vs=some c):
 aN (R (λh=>aj P ds (⟨⟨none,g,.store m x y⟩,[]⟩::rest) (act n l D pm ro) h K) B w0 kl F) (R (λh=>aj P ds rest (act n l D pm ro) h K) B w0 (pt b (.cells c)::kl') F):=Ew hg hx (by rw[hw];exact hy) hm hk hv
end
theorem MW{B:List Nat}{w0:Wd}{kl:List OA}{F:List ay}{K:KO}{ds:List Tmp}{rest:List aC}{n:Nat}{l:List (Nat×Value)}{D:List Deferred}{pm:Option FrameMode}{ro:Option Nat}{d:Nat}{g:Option (Tmp×Bool)}
 {fn:Fn} {first captured:List Operand} {a b:List Value} (hn:Nat.blt d n=true) (hg:aT l g=true) (h1:EvL (ev l) first a) (h2:EvL (ev l) captured b):
 aN (R (λh=>aj P ds (⟨⟨some d,g,.uC fn first captured⟩,[]⟩::rest) (act n l D pm ro) h K) B w0 kl F) (R (λh=>aj P ds rest (act n ((d,.func fn ⟨a⟩ ⟨b⟩)::l) D pm ro) h K) B w0 kl F):=jb hn hg (LG h1 h2)
theorem go{G G':Prop}(x:G')(r:aN G G':=by
 repeat (first
  |((with_reducible apply aN.trans);first
   |with_reducible exact LH
   |with_reducible exact LJ
   |with_reducible exact LK
   |with_reducible exact LM
   |with_reducible exact LP
   |with_reducible exact LQ
   |with_reducible exact LU
   |with_reducible exact LV
   |with_reducible exact LW
   |with_reducible exact LX
   |with_reducible exact LY
   |with_reducible exact LZ
   |with_reducible exact L6
   |with_reducible exact L8
   |with_reducible exact L9
   |with_reducible exact Md
   |with_reducible exact Me
   |with_reducible exact Mf
   |((with_reducible apply Ma);exact rfl)
   |((with_reducible apply Mc);exact rfl)
   |((with_reducible apply Mg);(focus exact rfl))
   |((with_reducible apply Mh);(focus exact rfl))
   |((with_reducible apply Mj);(focus exact rfl);(focus exact rfl))
   |((with_reducible apply MO);(focus exact rfl);(focus exact rfl);(focus ((conv=>lhs;whnf);(first|done|fail)));(focus exact rfl);(focus (((repeat (first|with_reducible exact bC .. |with_reducible apply aY));first|done|fail);(first|done|fail)));(focus ((omega);(first|done|fail))))
   |((with_reducible apply MP);(focus exact rfl);(focus exact rfl);(focus ((conv=>lhs;whnf);(first|done|fail)));(focus exact rfl);(focus (((repeat (first|with_reducible exact bC .. |with_reducible apply aY));first|done|fail);(first|done|fail)));(focus ((omega);(first|done|fail))))
   |((with_reducible apply Ez);(focus exact rfl);(focus exact rfl);(focus ((conv=>lhs;whnf);(first|done|fail)));(focus exact rfl);(focus (((repeat (first|with_reducible exact bC .. |with_reducible apply aY));first|done|fail);(first|done|fail)));(focus ((omega);(first|done|fail)));(focus ((omega);(first|done|fail))))
   |((with_reducible apply EA);(focus exact rfl);(focus exact rfl);(focus ((conv=>lhs;whnf);(first|done|fail)));(focus exact rfl);(focus (((repeat (first|with_reducible exact bC .. |with_reducible apply aY));first|done|fail);(first|done|fail)));(focus ((omega);(first|done|fail)));(focus ((omega);(first|done|fail))))
   |((with_reducible apply jb);(focus exact rfl);(focus exact rfl);(focus ((first|((with_reducible apply vM);(focus ((conv=>lhs;whnf);(first|done|fail))))|((with_reducible apply vN);(focus ((conv=>lhs;whnf);(first|done|fail))))|((with_reducible apply vR);(focus exact rfl))|((with_reducible apply vT);(focus exact rfl);(focus exact rfl))|((with_reducible apply vU);(focus exact rfl);(focus exact rfl))|((with_reducible apply vV);(focus exact rfl);(focus exact rfl))|((with_reducible apply vW);(focus exact rfl);(focus exact rfl))|((with_reducible apply vX);(focus exact rfl);(focus exact rfl))|((with_reducible apply vY);(focus exact rfl);(focus exact rfl))|((with_reducible apply vQ);(focus exact rfl))|((with_reducible apply vO);(focus exact rfl);(focus ((conv=>lhs;whnf);(first|done|fail))))|((with_reducible apply vP);(focus exact rfl);(focus ((conv=>lhs;whnf);(first|done|fail))))|((with_reducible apply wm);(focus exact rfl);(focus ((conv=>lhs;whnf);(first|done|fail))))|((with_reducible apply wo);(focus exact rfl))|((with_reducible apply wu);(focus exact rfl);(focus ((conv=>lhs;whnf);(first|done|fail))))|((with_reducible apply ww);(focus exact rfl);(focus ((conv=>lhs;whnf);(first|done|fail))))|((with_reducible apply wy);(focus ((conv=>lhs;whnf);(first|done|fail))))|((with_reducible apply wz);(focus exact rfl))|((with_reducible apply wB);(focus exact rfl))|((with_reducible apply wC);(focus exact rfl))|with_reducible exact vS|((with_reducible apply wD);(focus exact rfl);(focus exact rfl);(focus exact rfl))|((with_reducible apply wN);(focus exact rfl);(focus exact rfl);(focus ((omega);(first|done|fail))))|((with_reducible apply tH);(focus exact rfl);(focus exact rfl);(focus ((omega);(first|done|fail)));(focus ((omega);(first|done|fail))))|((with_reducible apply wE);(focus exact rfl);(focus exact rfl);(focus ((omega);(first|done|fail)));(focus ((omega);(first|done|fail))))|((with_reducible apply vZ);(focus exact rfl);(focus exact rfl);(focus ((omega);(first|done|fail)));(focus ((omega);(first|done|fail))))|((with_reducible apply wh);(focus exact rfl);(focus exact rfl);(focus ((omega);(first|done|fail)));(focus ((omega);(first|done|fail))))|((with_reducible apply wI);(focus exact rfl);(focus exact rfl);(focus ((first|assumption|kernel_rfl);(first|done|fail))))|((with_reducible apply wJ);(focus exact rfl);(focus exact rfl);(focus ((first|assumption|kernel_rfl);(first|done|fail))))|((with_reducible apply wK);(focus exact rfl);(focus exact rfl))|((with_reducible apply wL);(focus exact rfl);(focus exact rfl))|((with_reducible apply wM);(focus exact rfl);(focus exact rfl);(focus ((omega);(first|done|fail)));(focus ((omega);(first|done|fail)))));(first|done|fail))))
   |((with_reducible apply MW);(focus exact rfl);(focus exact rfl);(focus (repeat (first|with_reducible exact EvL.nil|((with_reducible apply EvL.cons);(conv=>lhs;whnf)))));(focus (repeat (first|with_reducible exact EvL.nil|((with_reducible apply EvL.cons);(conv=>lhs;whnf))))))
   |((with_reducible apply MQ);(focus exact rfl);(focus exact rfl);(focus (repeat (first|with_reducible exact Fill.nil|((with_reducible apply Fill.cons);(conv=>lhs;whnf);(conv=>lhs;whnf);(focus exact rfl);(conv=>lhs;whnf))))))
   |((with_reducible apply MS);(focus exact rfl);(focus exact rfl);(focus (repeat (first|with_reducible exact Fill.nil|((with_reducible apply Fill.cons);(conv=>lhs;whnf);(conv=>lhs;whnf);(focus exact rfl);(conv=>lhs;whnf))))))
   |((with_reducible apply MU);(focus exact rfl);(focus exact rfl);(focus ((conv=>lhs;whnf);(first|done|fail)));(focus ((conv=>lhs;whnf);(first|done|fail))))
   |((with_reducible apply Mk);(focus exact rfl);(focus exact rfl))
   |((with_reducible apply Mo);(focus exact rfl);(focus exact rfl);(focus exact rfl);(focus ((repeat (first|with_reducible exact ax.here|with_reducible apply ax.there|with_reducible apply ax.app));(first|done|fail)));(focus ((conv=>lhs;whnf);(first|done|fail))))
   |((with_reducible apply Eu);(focus exact rfl);(focus exact rfl);(focus exact rfl);(focus ((repeat (first|with_reducible exact ax.here|with_reducible apply ax.there|with_reducible apply ax.app));(first|done|fail)));(focus ((conv=>lhs;whnf);(first|done|fail))))
   |((with_reducible apply Mq);(focus exact rfl);(focus exact rfl);(focus exact rfl);(focus (((repeat (first|with_reducible exact bC .. |with_reducible apply aY));first|done|fail);(first|done|fail)));(focus ((conv=>lhs;whnf);(first|done|fail))))
   |((with_reducible apply Mr);(focus exact rfl);(focus exact rfl);(focus exact rfl);(focus (((repeat (first|with_reducible exact bC .. |with_reducible apply aY));first|done|fail);(first|done|fail)));(focus ((conv=>lhs;whnf);(first|done|fail))))
   |((with_reducible apply Ms);(focus exact rfl);(focus exact rfl);(focus exact rfl);(focus (((repeat (first|with_reducible exact bC .. |with_reducible apply aY));first|done|fail);(first|done|fail)));(focus ((conv=>lhs;whnf);(first|done|fail))))
   |((with_reducible apply Mt);(focus exact rfl);(focus exact rfl);(focus exact rfl);(focus (((repeat (first|with_reducible exact bC .. |with_reducible apply aY));first|done|fail);(first|done|fail)));(focus ((conv=>lhs;whnf);(first|done|fail))))
   |((with_reducible apply MV);(focus exact rfl);(focus exact rfl);(focus ((conv=>lhs;whnf);(first|done|fail)));(focus ((conv=>lhs;whnf);(first|done|fail)));(focus exact rfl);(focus ((repeat (first|with_reducible exact ax.here|with_reducible apply ax.there|with_reducible apply ax.app));(first|done|fail)));(focus ((conv=>lhs;whnf);(first|done|fail))))
   |((with_reducible apply Mw);(focus exact rfl);(focus exact rfl);(focus ((conv=>lhs;whnf);(first|done|fail)));(focus (((repeat (first|with_reducible exact bC .. |with_reducible apply aY));first|done|fail);(first|done|fail))))
   |((with_reducible apply Mx);(focus exact rfl);(focus exact rfl);(focus ((conv=>lhs;whnf);(first|done|fail)));(focus ((repeat (first|with_reducible exact ax.here|with_reducible apply ax.there|with_reducible apply ax.app));(first|done|fail))))
   |((with_reducible apply MJ (re:=_::_));(focus exact rfl);(focus exact rfl);(focus ((first|((with_reducible apply vM);(focus ((conv=>lhs;whnf);(first|done|fail))))|((with_reducible apply vN);(focus ((conv=>lhs;whnf);(first|done|fail))))|((with_reducible apply vR);(focus exact rfl))|((with_reducible apply vT);(focus exact rfl);(focus exact rfl))|((with_reducible apply vU);(focus exact rfl);(focus exact rfl))|((with_reducible apply vV);(focus exact rfl);(focus exact rfl))|((with_reducible apply vW);(focus exact rfl);(focus exact rfl))|((with_reducible apply vX);(focus exact rfl);(focus exact rfl))|((with_reducible apply vY);(focus exact rfl);(focus exact rfl))|((with_reducible apply vQ);(focus exact rfl))|((with_reducible apply vO);(focus exact rfl);(focus ((conv=>lhs;whnf);(first|done|fail))))|((with_reducible apply vP);(focus exact rfl);(focus ((conv=>lhs;whnf);(first|done|fail))))|((with_reducible apply wm);(focus exact rfl);(focus ((conv=>lhs;whnf);(first|done|fail))))|((with_reducible apply wo);(focus exact rfl))|((with_reducible apply wu);(focus exact rfl);(focus ((conv=>lhs;whnf);(first|done|fail))))|((with_reducible apply ww);(focus exact rfl);(focus ((conv=>lhs;whnf);(first|done|fail))))|((with_reducible apply wy);(focus ((conv=>lhs;whnf);(first|done|fail))))|((with_reducible apply wz);(focus exact rfl))|((with_reducible apply wB);(focus exact rfl))|((with_reducible apply wC);(focus exact rfl))|with_reducible exact vS|((with_reducible apply wD);(focus exact rfl);(focus exact rfl);(focus exact rfl))|((with_reducible apply wN);(focus exact rfl);(focus exact rfl);(focus ((omega);(first|done|fail))))|((with_reducible apply tH);(focus exact rfl);(focus exact rfl);(focus ((omega);(first|done|fail)));(focus ((omega);(first|done|fail))))|((with_reducible apply wE);(focus exact rfl);(focus exact rfl);(focus ((omega);(first|done|fail)));(focus ((omega);(first|done|fail))))|((with_reducible apply vZ);(focus exact rfl);(focus exact rfl);(focus ((omega);(first|done|fail)));(focus ((omega);(first|done|fail))))|((with_reducible apply wh);(focus exact rfl);(focus exact rfl);(focus ((omega);(first|done|fail)));(focus ((omega);(first|done|fail))))|((with_reducible apply wI);(focus exact rfl);(focus exact rfl);(focus ((first|assumption|kernel_rfl);(first|done|fail))))|((with_reducible apply wJ);(focus exact rfl);(focus exact rfl);(focus ((first|assumption|kernel_rfl);(first|done|fail))))|((with_reducible apply wK);(focus exact rfl);(focus exact rfl))|((with_reducible apply wL);(focus exact rfl);(focus exact rfl))|((with_reducible apply wM);(focus exact rfl);(focus exact rfl);(focus ((omega);(first|done|fail)));(focus ((omega);(first|done|fail)))));(first|done|fail)));(focus ((repeat (first|exact wO|refine wP rfl (by repeat (first|with_reducible exact ax.here|with_reducible apply ax.there|with_reducible apply ax.app)) (by first|exact rfl|(conv=>lhs;whnf)) rfl ?_|refine wQ rfl (by(repeat (first|with_reducible exact bC .. |with_reducible apply aY));first|done|fail) (by first|exact rfl|(conv=>lhs;whnf)) rfl ?_|refine wR rfl (by(repeat (first|with_reducible exact bC .. |with_reducible apply aY));first|done|fail) (by first|exact rfl|(conv=>lhs;whnf)) rfl ?_|refine wS rfl (by repeat (first|with_reducible exact ax.here|with_reducible apply ax.there|with_reducible apply ax.app)) (by first|exact rfl|(conv=>lhs;whnf)) rfl ?_|refine wT rfl (by(repeat (first|with_reducible exact bC .. |with_reducible apply aY));first|done|fail) (by first|exact rfl|(conv=>lhs;whnf)) rfl ?_|refine wU rfl (by(repeat (first|with_reducible exact bC .. |with_reducible apply aY));first|done|fail) (by first|exact rfl|(conv=>lhs;whnf)) rfl ?_));(first|done|fail))))
   |((with_reducible apply MI (re:=_::_));(focus exact rfl);(focus exact rfl);(focus ((conv=>lhs;whnf);(first|done|fail)));(focus ((conv=>lhs;whnf);(first|done|fail)));(focus exact rfl);(focus ((repeat (first|with_reducible exact ax.here|with_reducible apply ax.there|with_reducible apply ax.app));(first|done|fail)));(focus ((conv=>lhs;whnf);(first|done|fail)));(focus ((repeat (first|exact wO|refine wP rfl (by repeat (first|with_reducible exact ax.here|with_reducible apply ax.there|with_reducible apply ax.app)) (by first|exact rfl|(conv=>lhs;whnf)) rfl ?_|refine wQ rfl (by(repeat (first|with_reducible exact bC .. |with_reducible apply aY));first|done|fail) (by first|exact rfl|(conv=>lhs;whnf)) rfl ?_|refine wR rfl (by(repeat (first|with_reducible exact bC .. |with_reducible apply aY));first|done|fail) (by first|exact rfl|(conv=>lhs;whnf)) rfl ?_|refine wS rfl (by repeat (first|with_reducible exact ax.here|with_reducible apply ax.there|with_reducible apply ax.app)) (by first|exact rfl|(conv=>lhs;whnf)) rfl ?_|refine wT rfl (by(repeat (first|with_reducible exact bC .. |with_reducible apply aY));first|done|fail) (by first|exact rfl|(conv=>lhs;whnf)) rfl ?_|refine wU rfl (by(repeat (first|with_reducible exact bC .. |with_reducible apply aY));first|done|fail) (by first|exact rfl|(conv=>lhs;whnf)) rfl ?_));(first|done|fail))))
   |fail)
  |((with_reducible apply aN.all);intro _)
  |with_reducible apply aN.imp)
 with_reducible exact aN.refl _):G:=r.h x
theorem fU.sub{α:Type}{F0:List α}:∀{F:List α},fU F0 F->Sub F0 F:=λ{F} h=>by
 have:∀k:List α,(∀x∈k,x∈F)->Sub k F:=by
  intro k;induction k with
  |nil=>intro _;exact .nil
  |cons a k ih=>intro hk;exact .cons (hk a (bC ..)) (ih λx hx=>hk x (aY _ hx))
 exact this F0 h.mem
inductive bi{α:Type}:List α->List α->List α->Prop
 |nil {l:List α}:bi [] l l
 |cons {a:α} {k l m:List α} (h:bi k l m):bi (a::k) l (a::m)
 |self {k:List α}:bi k [] k
 |app {k l:List α}:bi k l (k++l)
theorem bi.eq{α:Type}:∀{k l m:List α},bi k l m->k++l=m
 |_,_,_,.nil=>rfl
 |_,_,_,.self=>fu _
 |_,_,_,.app=>rfl
 |_,_,_,.cons h=>by rw[mP,h.eq]
section
variable {B:List Nat} {w0:Wd} {kl kl' aQ:List OA} {F:List ay} {K:KO} {ds:List Tmp} {rest:List aC} {n:Nat} {l:List (Nat×Value)} {D:List Deferred} {pm:Option FrameMode} {ro:Option Nat} {d:Nat} {g:Option (Tmp×Bool)}
theorem bn{Y:Type}{f:Operand}{xs:List Operand}{re:List bS}{fn:Fn}{first captured vs as:List Value}{k1:List OA}{F1:List ay}{val:Y->Value}{k1':Y->List OA}{fs:Y->List ay}{pr:Y->Prop}{dD:Y->List OA}{F2:Y->List ay}
 (hc:cB P fn as captured k1 F1 val k1' fs pr) (hn:Nat.blt d n=true:=by rfl) (hg:aT l g=true:=by rfl) (hf:ev l f=.func fn ⟨first⟩ ⟨captured⟩:=by rfl) (hx:EvL (ev l) xs vs:=by repeat (first|with_reducible exact EvL.nil|((with_reducible apply EvL.cons);(conv=>lhs;whnf)))) (ha:first++vs=as:=by rfl)
 (hk:bG k1 kl aQ:=by exact mi) (hF:Sub F1 F:=by exact mh)
 (hak:∀y,bi (k1' y) aQ (dD y):=by intro y;repeat (first|exact bi.nil|apply bi.cons|exact bi.self|exact bi.app)) (wV:∀y,bi (fs y) F (F2 y):=by intro y;repeat (first|exact bi.nil|apply bi.cons|exact bi.self|exact bi.app))
 (hs:∀y,pr y->Same P re (ev ((d,val y)::l)) ((d,val y)::l) B w0 (dD y) (F2 y):=by intro _ _;repeat (first|exact wO|refine wP rfl (by repeat (first|with_reducible exact ax.here|with_reducible apply ax.there|with_reducible apply ax.app)) (by first|exact rfl|(conv=>lhs;whnf)) rfl ?_|refine wQ rfl (by(repeat (first|with_reducible exact bC .. |with_reducible apply aY));first|done|fail) (by first|exact rfl|(conv=>lhs;whnf)) rfl ?_|refine wR rfl (by(repeat (first|with_reducible exact bC .. |with_reducible apply aY));first|done|fail) (by first|exact rfl|(conv=>lhs;whnf)) rfl ?_|refine wS rfl (by repeat (first|with_reducible exact ax.here|with_reducible apply ax.there|with_reducible apply ax.app)) (by first|exact rfl|(conv=>lhs;whnf)) rfl ?_|refine wT rfl (by(repeat (first|with_reducible exact bC .. |with_reducible apply aY));first|done|fail) (by first|exact rfl|(conv=>lhs;whnf)) rfl ?_|refine wU rfl (by(repeat (first|with_reducible exact bC .. |with_reducible apply aY));first|done|fail) (by first|exact rfl|(conv=>lhs;whnf)) rfl ?_|refine EF (by first|((with_reducible apply vM);(focus ((conv=>lhs;whnf);(first|done|fail))))|((with_reducible apply vN);(focus ((conv=>lhs;whnf);(first|done|fail))))|((with_reducible apply vR);(focus exact rfl))|((with_reducible apply vT);(focus exact rfl);(focus exact rfl))|((with_reducible apply vU);(focus exact rfl);(focus exact rfl))|((with_reducible apply vV);(focus exact rfl);(focus exact rfl))|((with_reducible apply vW);(focus exact rfl);(focus exact rfl))|((with_reducible apply vX);(focus exact rfl);(focus exact rfl))|((with_reducible apply vY);(focus exact rfl);(focus exact rfl))|((with_reducible apply vQ);(focus exact rfl))|((with_reducible apply vO);(focus exact rfl);(focus ((conv=>lhs;whnf);(first|done|fail))))|((with_reducible apply vP);(focus exact rfl);(focus ((conv=>lhs;whnf);(first|done|fail))))|((with_reducible apply wm);(focus exact rfl);(focus ((conv=>lhs;whnf);(first|done|fail))))|((with_reducible apply wo);(focus exact rfl))|((with_reducible apply wu);(focus exact rfl);(focus ((conv=>lhs;whnf);(first|done|fail))))|((with_reducible apply ww);(focus exact rfl);(focus ((conv=>lhs;whnf);(first|done|fail))))|((with_reducible apply wy);(focus ((conv=>lhs;whnf);(first|done|fail))))|((with_reducible apply wz);(focus exact rfl))|((with_reducible apply wB);(focus exact rfl))|((with_reducible apply wC);(focus exact rfl))|with_reducible exact vS|((with_reducible apply wD);(focus exact rfl);(focus exact rfl);(focus exact rfl))|((with_reducible apply wN);(focus exact rfl);(focus exact rfl);(focus ((omega);(first|done|fail))))|((with_reducible apply tH);(focus exact rfl);(focus exact rfl);(focus ((omega);(first|done|fail)));(focus ((omega);(first|done|fail))))|((with_reducible apply wE);(focus exact rfl);(focus exact rfl);(focus ((omega);(first|done|fail)));(focus ((omega);(first|done|fail))))|((with_reducible apply vZ);(focus exact rfl);(focus exact rfl);(focus ((omega);(first|done|fail)));(focus ((omega);(first|done|fail))))|((with_reducible apply wh);(focus exact rfl);(focus exact rfl);(focus ((omega);(first|done|fail)));(focus ((omega);(first|done|fail))))|((with_reducible apply wI);(focus exact rfl);(focus exact rfl);(focus ((first|assumption|kernel_rfl);(first|done|fail))))|((with_reducible apply wJ);(focus exact rfl);(focus exact rfl);(focus ((first|assumption|kernel_rfl);(first|done|fail))))|((with_reducible apply wK);(focus exact rfl);(focus exact rfl))|((with_reducible apply wL);(focus exact rfl);(focus exact rfl))|((with_reducible apply wM);(focus exact rfl);(focus exact rfl);(focus ((omega);(first|done|fail)));(focus ((omega);(first|done|fail))))) rfl ?_))
 (next:∀y,pr y->R (λh=>aj P ds rest (act n ((d,val y)::l) D pm ro) h K) B w0 (dD y) (F2 y)):
 R (λh=>aj P ds (⟨⟨some d,g,.call f xs⟩,re⟩::rest) (act n l D pm ro) h K) B w0 kl F:=
 MK hc hn hg hf hx ha hk hF (λy hy=>by rw[(hak y).eq,(wV y).eq];exact hs y hy) (λy hy=>by rw[(hak y).eq,(wV y).eq];exact next y hy)
abbrev fV(P:Program)(f:FuncId)(args:List Value)(F:List ay)(v:Value):Prop:=cB P (.func f) args [] [] F (λ_:Unit=>v) (λ_=>[]) (λ_=>[]) (λ_=>True)
theorem dY{Y:Type}{f:FuncId}{args cap:List Value}{kl:List OA}{F:List ay}{val:Y->Value}{kl':Y->List OA}{fs:Y->List ay}{pr:Y->Prop}{c:aM}{m:Nat}{l0:List (Nat×Value)}(cf:cu)(hF:(iV P lN lQ).F f=some cf)
 (hb:∀B w0,R (λh=>EV P c (act m l0 [] none none) h (sV cf (Left B w0 val kl' fs pr))) B w0 kl F)
 (h1:cf.body=c:=by conv=>lhs;(reduce;(try simp only[Int.reduceOfNat,Int.reduceNegSucc]))) (h2:kM cf.ntmps (bY (args++cap))=m:=by conv=>lhs;whnf) (h3:kX 0 (args++cap) []=l0:=by dsimp only[kX,Nat.reduceAdd,List.append_nil,List.cons_append,List.nil_append]):cB P (.func f) args cap kl F val kl' fs pr:=
 MG cf hF (by rw[h1,h2,h3];exact hb)
theorem eX{α:Type}(E:Enc α){x i:Operand}{v:Value}{xs:List α}{size:Nat}{k:Nat}{kk:IntKind}{F2:α->E.Y->List ay}(hn:Nat.blt d n=true:=by rfl)(hg:aT l g=true:=by rfl)(hx:ev l x=v:=by conv=>lhs;whnf)(hi:ev l i=.int kk (k:Int):=by rfl)
 (hf:bg E v xs∈F:=by exact mo) (hs:E.n=size:=by rfl) (h1:k<xs.length:=by omega)
 (ha:∀z y,bi (E.fs z y) F (F2 z y):=by intro z y;repeat (first|exact bi.nil|apply bi.cons|exact bi.self|exact bi.app))
 (next:∀b o z y,xs[k]? =some z->R (λh=>aj P ds rest (act n ((d,.pointer (some ⟨b,o,none⟩))::l) D pm ro) h K) B w0 kl (eT b o (E.pat z y)::F2 z y)):
 R (λh=>aj P ds (⟨⟨some d,g,.iR size x i⟩,[]⟩::rest) (act n l D pm ro) h K) B w0 kl F:=
 (Aa hn hg hx hi hf hs (by omega) (by omega)).h λb o z y hz=>by rw[(ha z y).eq];exact next b o z y (by simpa using hz)
theorem bf{Y:Type}{o:Out}{cf:cu}{vs:List Value}{val:Y->Value}{k1:Y->List OA}{fs:Y->List ay}{pr:Y->Prop}(y:Y)
 (hr:RS l kl cf.results vs:=by exact EG) (hv:qA vs=val y:=by rfl) (hp:pr y)
 (hk:bG (k1 y) kl aQ:=by exact mi) (hF:Sub (fs y) F:=by exact mh)
 (ho:o=.normal\/o=.ret:=by first|exact .inl rfl|exact .inr rfl):R (λh=>sV cf (Left B w0 val k1 fs pr) o (act n l [] none ro) h) B w0 kl F:=
 ML y hr hv hp hk hF ho
theorem oP{A:OA}{fs F2:List ay}{Q:IH->Prop}(hA:oN A fs)(hk:ax A kl kl':=by exact eU)(ha:bi fs F F2:=by repeat (first|exact bi.nil|apply bi.cons|exact bi.self|exact bi.app))(h:R Q B w0 kl' F2):R Q B w0 kl F:=
 MC hA hk (by rw[ha.eq];exact h)
theorem iJ{X:Type}{c:aM}{l0:List (Nat×Value)}{L2:X->List (Nat×Value)}{EH:X->List OA}{EI:X->List ay}(m:X->Nat)(L:X->List (Nat×Value))(KL:X->List OA)(FF:X->List ay)(inv:X->Prop)(x0:X)(hi:inv x0)
 (h0:mg l (L x0) l0:=by repeat (first|exact mg.nil|(apply mg.drop;(focus exact rfl))|(apply mg.keep;(focus exact rfl)))) (hl:sub (L x0++l0) l:=by repeat (first|exact trivial|refine⟨rfl,?_⟩))
 (hk:bG (KL x0) kl aQ:=by exact mi) (hF:Sub (FF x0) F:=by exact mh)
 (hak:∀x,bi (KL x) aQ (EH x):=by intro y;repeat (first|exact bi.nil|apply bi.cons|exact bi.self|exact bi.app)) (wV:∀x,bi (FF x) F (EI x):=by intro y;repeat (first|exact bi.nil|apply bi.cons|exact bi.self|exact bi.app))
 (hal:∀x,bi (L x) l0 (L2 x):=by intro y;repeat (first|exact bi.nil|apply bi.cons|exact bi.self|exact bi.app))
 (body:∀x,inv x->R (λh=>EV P c (act n (L2 x) D pm ro) h (l9 (LI n D pm ro B w0 m L KL FF inv l0 aQ F) (m x) K)) B w0 (EH x) (EI x)):
 R (λh=>EV P (.loop c) (act n l D pm ro) h K) B w0 kl F:=
 MM m L KL FF inv x0 hi l0 hl hk hF λx hx=>by rw[(hak x).eq,(wV x).eq,(hal x).eq];exact body x hx
theorem dw{X:Type}{m:X->Nat}{L:X->List (Nat×Value)}{KL:X->List OA}{FF:X->List ay}{inv:X->Prop}{l0:List (Nat×Value)}{EJ dD:List OA}{F0:List ay}{m0:Nat}(x:X)(hm:m x<m0)(hi:inv x)
 (hl:sub (L x++l0) l:=by repeat (first|exact trivial|refine⟨rfl,?_⟩)) (ha:bi (KL x) aQ EJ:=by repeat (first|exact bi.nil|apply bi.cons|exact bi.self|exact bi.app))
 (hk:bG EJ kl dD:=by exact mi) (hF:Sub (FF x) F:=by exact mh)
 (oO:fU F0 F:=by repeat (first|exact fU.here|apply fU.cons|apply fU.app)):
 R (λh=>l9 (LI n D pm ro B w0 m L KL FF inv l0 aQ F0) m0 K .normal (act n l D pm ro) h) B w0 kl F:=
 MN x hm hi hl (by rw[ha.eq];exact hk) hF oO
end
end Go.Ideal
namespace Go.Ideal
noncomputable def wW(L:Lay):Wd:=⟨dQ L,λi=>i<(dQ L).next,λ_ h=>h⟩
end Go.Ideal
namespace Go.Ideal
open Go.ChangeShapes Go.WideShapes Go.ChangeAt Go.RowKit
variable {P:Program}
def qC{α:Type}(P:Program)(t:TypeId)(E:Enc α):Prop:=∀(w:Wd) (H:Type) (d:DataW H) (cs:List Value),(∀i,i<w.h.next->w.z i)->bK P w.h t cs d->∃a y,cs=E.pat a y/\∀f∈E.fs a y,f.p w
theorem wX{α:Type}{p:Nat->α->Prop}:∀n,(∀k,k<n->∃a,p k a)->∃l:List α,l.length=n/\∀(k:Nat) a,l[k]? =some a->p k a
 |0,_=>⟨[],rfl,λk a h=>by cases h⟩
 |n+1,h=>by
  obtain⟨l,h1,h2⟩:=wX n (λk hk=>h k (by omega));obtain⟨a,ha⟩:=h n (by omega);refine⟨l++[a],by simp[h1],λk b hb=>?_⟩;by_cases hk:k<l.length
  ·rw[fK hk]at hb;exact h2 k b hb
  ·rw[ji (by omega)]at hb;have hk0:k=n:=by have:=(bH.1 hb).1;simp at this;omega
   subst hk0;rw[h1]at hb;simp at hb;subst hb;exact ha
def EK{α β:Type}(E1:Enc α)(E2:Enc β):Enc (α×β):=⟨E1.n+E2.n,E1.Y×E2.Y,λa y=>E1.pat a.1 y.1++E2.pat a.2 y.2,λa y=>E1.fs a.1 y.1++E2.fs a.2 y.2,λa y=>by rw[dO,E1.len,E2.len]⟩
def EL:Enc Unit:=⟨0,Unit,λ_ _=>[],λ_ _=>[],λ_ _=>rfl⟩
inductive qD(P:Program):{α:Type}->List Field->Enc α->Prop
 |nil:qD P [] EL
 |cons {α β:Type} {f:Field} {fs:List Field} {E1:Enc α} {E2:Enc β} (h:qC P f.type E1) (hn:P.cellsOf f.type=E1.n) (t:qD P fs E2):qD P (f::fs) (EK E1 E2)
theorem qD.wY{w:Wd}{H:Type}(hz:∀i,i<w.h.next->w.z i):∀{α:Type} {fs:List Field} {E:Enc α},qD P fs E->∀(o0:Nat) (cs:List Value) (ds:List (DataW H)),cs.length=(fs.map λf=>P.cellsOf f.type).sum->ds.length=fs.length->
 fs.map (·.offset)=sums o0 (fs.map λf=>P.cellsOf f.type)->(∀(j:Nat) f d,fs[j]? =some f->ds[j]? =some d->bK P w.h f.type ((cs.drop (f.offset - o0)).take (P.cellsOf f.type)) d)->∃a y,cs=E.pat a y/\∀f∈E.fs a y,f.p w
 |_,_,_,.nil,o0,cs,ds,h1,h2,h3,h4=>⟨(),(),jm.1 (by simpa using h1),λf hf=>by cases hf⟩
 |_,_,_,.cons (f:=f) (fs:=fs) (E1:=E1) (E2:=E2) h hn t,o0,cs,ds,h1,h2,h3,h4=>by
  match ds,h2 with
  |d::ds,h2=>
   simp only[jh,List.sum_cons,sums,pg]at h1 h3;obtain⟨ho,h3⟩:=h3;have r0:=h4 0 f d rfl rfl;rw[ho,Nat.sub_self,q9]at r0;obtain⟨a,y,q1,q2⟩:=h w H d _ hz r0;obtain⟨b,z,u1,u2⟩:=qD.wY hz t (o0+P.cellsOf f.type) (cs.drop (P.cellsOf f.type)) ds (by rw[gq];omega) (by simpa using h2) h3 (λj g e hg he=>by
    have:=h4 (j+1) g e hg he;rw[List.drop_drop];have hle:o0+P.cellsOf f.type<=g.offset:=by
     have hj:(fs.map (·.offset))[j]? =some g.offset:=by rw[bN,hg];rfl
     rw[h3]at hj;have hs:(fs.map λf=>P.cellsOf f.type)[j]? =some (P.cellsOf g.type):=by rw[bN,hg];rfl
     exact(nH _ ([]:List Value) (o0+P.cellsOf f.type) j _ _ hj hs).2
    rw[show P.cellsOf f.type+(g.offset - (o0+P.cellsOf f.type))=g.offset - o0 by omega];exact this)
   refine⟨(a,b),(y,z),?_,?_⟩
   ·show cs=E1.pat a y++E2.pat b z;rw[<- q1,<- u1,uu]
   ·intro g hg;rcases dS.1 hg with hg|hg
    ·exact q2 g hg
    ·exact u2 g hg
theorem qC.conv{α β:Type}{t:TypeId}{E:Enc α}{E':Enc β}(h:qC P t E)(hc:∀a y,∃b z,E.pat a y=E'.pat b z/\E.fs a y=E'.fs b z):qC P t E':=λw H d cs hz r=>by
 obtain⟨a,y,q1,q2⟩:=h w H d cs hz r;obtain⟨b,z,e1,e2⟩:=hc a y;exact⟨b,z,by rw[q1,e1],λf hf=>q2 f (by rw[e2];exact hf)⟩
section
variable {H:Type} {enc:TypeId×Value->H} {W:World} {K:TypeId->Prop}
def nJ(P:Program)(w:Wd)(t:TypeId)(v:Value){H:Type}(d:DataW H):Prop:=∃cs,bK P w.h t cs d/\((dL P t=true/\v=.agg ⟨cs⟩)\/(dL P t=false/\cs=[v]))
theorem nJ.agg{α:Type}{w:Wd}{t:TypeId}{v:Value}{d:DataW H}{E:Enc α}(h:nJ P w t v d)(hz:∀i,i<w.h.next->w.z i)(ha:dL P t=true)(hr:qC P t E):∃a y,v=.agg ⟨E.pat a y⟩/\∀f∈E.fs a y,f.p w:=by
 obtain⟨cs,r,⟨_,e⟩|⟨e,_⟩⟩:=h
 ·obtain⟨a,y,rfl,q⟩:=hr w H d cs hz r;exact⟨a,y,e,q⟩
 ·rw[ha]at e;cases e
theorem nJ.one{α:Type}{w:Wd}{t:TypeId}{v:Value}{d:DataW H}{E:Enc α}(h:nJ P w t v d)(hz:∀i,i<w.h.next->w.z i)(ha:dL P t=false)(hr:qC P t E):∃a y,E.pat a y=[v]/\∀f∈E.fs a y,f.p w:=by
 obtain⟨cs,r,⟨e,_⟩|⟨_,e⟩⟩:=h
 ·rw[ha]at e;cases e
 ·obtain⟨a,y,q0,q⟩:=hr w H d cs hz r;exact⟨a,y,by rw[<- q0,e],q⟩
theorem MX{L:Lay}{t:TypeId}{v v0:Value}{d:DataW H}{w:Wd}(hw:w.h=dQ L)(r:nI P (dQ L) t v d)(hv:VR (dA L) v v0)(hok:Value.okWide P W .any 0 t v0):nJ P w t v d:=by
 obtain⟨cs,r1,h2,h3⟩:=r;refine⟨cs,by rw[hw];exact r1,?_⟩;cases ha:dL P t with
 |true=>
  left;refine⟨rfl,?_⟩;rcases h3 with e|e
  ·subst e;have hagg:∃c,v0=.agg c:=by
    unfold dL at ha;unfold Value.okWide at hok;split at ha
    ·rename_i fs hu;rw[hu]at hok;obtain⟨c,e,_⟩:=hok;exact⟨c,e⟩
    ·rename_i n e hu;rw[hu]at hok;obtain⟨c,e,_⟩:=hok;exact⟨c,e⟩
    ·cases ha
   obtain⟨c,rfl⟩:=hagg
   exfalso
   cases hv<;>simp[cellV]at h2
  ·exact e
 |false=>
  right;refine⟨rfl,?_⟩;rcases h3 with e|e
  ·exact e
  ·subst e
   exfalso
   cases hv with
   |agg hc hl=>
    cases hu:P.underlying t with
    |none=>simp[Value.okWide,Cell.okWide,Cell.ok,hu]at hok
    |some d=>cases d<;>simp[Value.okWide,Cell.okWide,Cell.ok,dL,hu]at hok ha
theorem MZ{ts:List TypeId}{vs' vs:List Value}{L:Lay}(hv:ak (dA L) vs' vs):∀(j:Nat) v',vs'[j]? =some v'->∃v,vs[j]? =some v/\VR (dA L) v' v:=by
 intro j;induction j generalizing vs' vs with
 |zero=>
  intro v' h;cases hv with
  |nil=>cases h
  |cons h1 h2=>cases h;exact⟨_,rfl,h1⟩
 |succ j ih=>
  intro v' h;cases hv with
  |nil=>cases h
  |cons h1 h2=>exact ih h2 v' h
theorem Ae{a:Nat}{b:Nat->Bool}{c:Bool}:∀{ts:List TypeId} {vs:List Value} {ds:List (DataW H)} {ps:List MemPlace},DataW.TrodAll enc P W a b c ts vs ds ps->vs.length=ts.length/\ds.length=ts.length
 |[],[],[],_,_=>⟨rfl,rfl⟩
 |_::_,_::_,_::_,_,⟨_,_,_,h,_⟩=>by
  have:=Ae h;simp[this.1,this.2]
theorem EM{α:Type}{l:List α}(h:l.length=2):∃a b,l=[a,b]:=by
 match l,h with
 |[a,b],_=>exact⟨a,b,rfl⟩
end
