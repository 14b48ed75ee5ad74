/-
  The ideal machine, 53: the road through what needs no thought; lists put in order.
-/
import Derived.Test.YtbdaaopebgcnaaaGreatDoorIdealJM
import Derived.Test.YtbdaaopebgcnaaaGreatDoorIdealIM
set_option linter.all false
namespace Go.Ideal
theorem nZ{p:Prop}(h:p:=by repeat (first|exact Sub.nil|(apply Sub.cons;(focus ((repeat (first|with_reducible exact aR .. |with_reducible apply dw));first|done|fail)))|exact jB.sub (by repeat (first|with_reducible exact jB.here|with_reducible apply jB.cons|with_reducible apply jB.app)))):p:=h
theorem pI{p:Prop}(h:p:=by repeat (first|exact aI.nil|(apply aI.cons;(focus (repeat (first|with_reducible exact ai.here|with_reducible apply ai.there|with_reducible apply ai.app))))|with_reducible exact aI.all _|with_reducible exact aI.self _ _|with_reducible apply aI.there)):p:=h
theorem gQ{p:Prop}(h:p:=by repeat (first|with_reducible exact ai.here|with_reducible apply ai.there|with_reducible apply ai.app)):p:=h
theorem Ay{p:Prop}(h:p:=by repeat (first|exact RS.nil|(apply RS.tmp;(conv=>lhs;whnf))|(apply RS.cell1;(focus exact rfl);(focus (repeat (first|with_reducible exact ai.here|with_reducible apply ai.there|with_reducible apply ai.app)));(conv=>lhs;whnf))|(apply RS.yu;(focus exact rfl);(focus (repeat (first|with_reducible exact ai.here|with_reducible apply ai.there|with_reducible apply ai.app)));(conv=>lhs;whnf)))):p:=h
theorem nA{p:Prop}(h:p:=by(repeat (first|with_reducible exact aR .. |with_reducible apply dw));first|done|fail):p:=h
variable {P:Program}
section
variable {B:List Nat} {w0:Wd} {kl:List OA} {F:List aD} {K:KO} {ds:List Tmp} {rest:List aW} {n:Nat} {l:List (Nat×Value)} {D:List Deferred} {pm:Option FrameMode} {ro:Option Nat} {d:Nat} {g:Option (Tmp×Bool)}
theorem abn{x i:Operand}{v:Value}{xs:List Int}{k:Nat}{kk:IntKind}(hn:Nat.blt d n=true)(hg:bH l g=true)(hx:ev l x=v)(hi:ev l i=.int kk (k:Int))(hf:ae ah v xs∈F)(h1:k<xs.length):
 bY (R (λh=>aA P ds (⟨⟨some d,g,.gq 1 x i⟩,[]⟩::rest) (act n l D pm ro) h K) B w0 kl F)
  (∀b o z,xs[k]? =some z->R (λh=>aA P ds rest (act n ((d,.pointer (some ⟨b,o,none⟩))::l) D pm ro) h K) B w0 kl (bW b o [.int .i64 z]::F)):=
 ⟨λr=>(QV hn hg hx hi hf (by omega) (by omega)).h λb o z hz=>r b o z (by simpa using hz)⟩
theorem abo{x i:Operand}{v:Value}{xs:List Bool}{k:Nat}{kk:IntKind}(hn:Nat.blt d n=true)(hg:bH l g=true)(hx:ev l x=v)(hi:ev l i=.int kk (k:Int))(hf:ae kK v xs∈F)(h1:k<xs.length):
 bY (R (λh=>aA P ds (⟨⟨some d,g,.gq 1 x i⟩,[]⟩::rest) (act n l D pm ro) h K) B w0 kl F)
  (∀b o z,xs[k]? =some z->R (λh=>aA P ds rest (act n ((d,.pointer (some ⟨b,o,none⟩))::l) D pm ro) h K) B w0 kl (bW b o [.bool z]::F)):=
 ⟨λr=>(QW hn hg hx hi hf (by omega) (by omega)).h λb o z hz=>r b o z (by simpa using hz)⟩
end
inductive Fill(ρ:Operand->Value):List Value->List (Nat×Nat×Operand)->List Value->Prop
 |nil {cs:List Value}:Fill ρ cs [] cs
 |cons {cs vs cs' r:List Value} {off size:Nat} {x:Operand} {parts:List (Nat×Nat×Operand)} {v:Value} (h0:ρ x=v) (h1:cellsOf v=some vs) (h2:Nat.beq (gX vs) size=true) (h3:gW cs off vs=some cs') (t:Fill ρ cs' parts r):Fill ρ cs ((off,size,x)::parts) r
theorem Fill.eq{ρ:Operand->Value}:∀{zero:List Value} {parts:List (Nat×Nat×Operand)} {cs:List Value},Fill ρ zero parts cs->qf ρ zero parts=some cs
 |_,_,_,.nil=>rfl
 |cs0,_,_,.cons (off:=off) (size:=size) (x:=x) (parts:=parts) h0 h1 h2 h3 t=>by
  have ih:=t.eq;show(match cellsOf (ρ x)with
   |none=>none
   |some vs=>cond (Nat.beq (gX vs) size) (match gW cs0 off vs with
    |some cs=>qf ρ cs parts
    |none=>none) none)=_
  simp only[h0,h1,h2,h3,cond,ih]
theorem abp{B:List Nat}{w0:Wd}{kl:List OA}{F:List aD}{K:KO}{ds:List Tmp}{rest:List aW}{n:Nat}{l:List (Nat×Value)}{D:List Deferred}{pm:Option FrameMode}{ro:Option Nat}{d:Nat}{g:Option (Tmp×Bool)}
 {t:TypeId} {len:Nat} {zero cs:List Value} {parts:List (Nat×Nat×Operand)} (hn:Nat.blt d n=true) (hg:bH l g=true) (hx:Fill (ev l) zero parts cs):
 bY (R (λh=>aA P ds (⟨⟨some d,g,.eT t len zero parts⟩,[]⟩::rest) (act n l D pm ro) h K) B w0 kl F)
 (∀b,R (λh=>aA P ds rest (act n ((d,.slice (some ⟨b,0,some 0⟩) len len)::l) D pm ro) h K) B w0 (pt b (.cells cs)::kl) F):=aa0 hn hg hx.eq
theorem abq{B:List Nat}{w0:Wd}{kl:List OA}{F:List aD}{K:KO}{ds:List Tmp}{rest:List aW}{n:Nat}{l:List (Nat×Value)}{D:List Deferred}{pm:Option FrameMode}{ro:Option Nat}{d:Nat}{g:Option (Tmp×Bool)}
 {zero cs:List Value} {parts:List (Nat×Nat×Operand)} (hn:Nat.blt d n=true) (hg:bH l g=true) (hx:Fill (ev l) zero parts cs):
 bY (R (λh=>aA P ds (⟨⟨some d,g,.build zero parts⟩,[]⟩::rest) (act n l D pm ro) h K) B w0 kl F) (R (λh=>aA P ds rest (act n ((d,.agg ⟨cs⟩)::l) D pm ro) h K) B w0 kl F):=bC hn hg (aaz hx.eq)
theorem eY{B:List Nat}{w0:Wd}{kl:List OA}{F:List aD}{α:Type}{E:Enc α}{v:Value}{xs:List α}{Q:IH->Prop}(hf:ae E v xs∈F)(h:∀a c,v=.slice a xs.length c->R Q B w0 kl F):R Q B w0 kl F:=λw s=>by
 obtain⟨a,c,e⟩:=QT (s.facts _ hf);exact h a c e w s
section
variable {B:List Nat} {w0:Wd} {kl:List OA} {F:List aD} {K:KO} {ds:List Tmp} {rest:List aW} {n:Nat} {l:List (Nat×Value)} {D:List Deferred} {pm:Option FrameMode} {ro:Option Nat} {t1 t2:Nat}
theorem g_b{e:Bool}(h1:e=false->R (λh=>aA P ds rest (act n ((t1,.bool false)::(t2,.bool false)::l) D pm ro) h K) B w0 kl F)(h2:e=true->R (λh=>aA P ds rest (act n ((t1,.bool true)::(t2,.bool true)::l) D pm ro) h K) B w0 kl F):
 R (λh=>aA P ds rest (act n ((t1,.bool e)::(t2,.bool e)::l) D pm ro) h K) B w0 kl F:=by
 cases e
 ·exact h1 rfl
 ·exact h2 rfl
end
section
variable {B:List Nat} {w0:Wd} {kl kl':List OA} {F:List aD} {K:KO} {ds:List Tmp} {rest:List aW} {n:Nat} {l:List (Nat×Value)} {D:List Deferred} {pm:Option FrameMode} {ro:Option Nat} {d:Nat} {g:Option (Tmp×Bool)}
theorem abt{x:Operand}{t:TypeId}{v:Value}{cs:List Value}(hn:Nat.blt d n=true)(hg:bH l g=true)(hv:ev l x=v)(hx:cellsOf v=some cs):bY (R (λh=>aA P ds (⟨⟨some d,g,.box x t⟩,[]⟩::rest) (act n l D pm ro) h K) B w0 kl F)
 (∀b,R (λh=>aA P ds rest (act n ((d,.pointer (some ⟨b,0,none⟩))::l) D pm ro) h K) B w0 (pt b (.cells cs)::kl) F):=aaZ hn hg (by rw[hv];exact hx)
theorem abu{x y:Operand}{b o m:Nat}{cs vs c:List Value}{v:Value}(hg:bH l g=true)(hx:ev l x=.pointer (some ⟨b,o,none⟩))(hw:ev l y=v)(hy:cellsOf v=some vs)(hm:Nat.beq (gX vs) m=true)
 (hk:ai (pt b (.cells cs)) kl kl') (hv:gW cs o vs=some c):
 bY (R (λh=>aA P ds (⟨⟨none,g,.store m x y⟩,[]⟩::rest) (act n l D pm ro) h K) B w0 kl F) (R (λh=>aA P ds rest (act n l D pm ro) h K) B w0 (pt b (.cells c)::kl') F):=QS hg hx (by rw[hw];exact hy) hm hk hv
end
theorem abv{B:List Nat}{w0:Wd}{kl:List OA}{F:List aD}{K:KO}{ds:List Tmp}{rest:List aW}{n:Nat}{l:List (Nat×Value)}{D:List Deferred}{pm:Option FrameMode}{ro:Option Nat}{d:Nat}{g:Option (Tmp×Bool)}
 {fn:Fn} {first captured:List Operand} {a b:List Value} (hn:Nat.blt d n=true) (hg:bH l g=true) (h1:EvL (ev l) first a) (h2:EvL (ev l) captured b):
 bY (R (λh=>aA P ds (⟨⟨some d,g,.BP fn first captured⟩,[]⟩::rest) (act n l D pm ro) h K) B w0 kl F) (R (λh=>aA P ds rest (act n ((d,.func fn ⟨a⟩ ⟨b⟩)::l) D pm ro) h K) B w0 kl F):=bC hn hg (aaA h1 h2)
theorem go{G G':Prop}(x:G')(r:bY G G':=by
 repeat (first
  |((with_reducible apply bY.trans);first
   |with_reducible exact aaB
   |with_reducible exact aaC
   |with_reducible exact aaD
   |with_reducible exact aaE
   |with_reducible exact aaF
   |with_reducible exact aaG
   |with_reducible exact aaH
   |with_reducible exact Li
   |with_reducible exact aaI
   |with_reducible exact aaJ
   |with_reducible exact aaK
   |with_reducible exact aaL
   |with_reducible exact aaM
   |with_reducible exact aaN
   |with_reducible exact aaO
   |with_reducible exact aaR
   |with_reducible exact aaS
   |with_reducible exact aaT
   |((with_reducible apply aaP);exact rfl)
   |((with_reducible apply aaQ);exact rfl)
   |((with_reducible apply aaU);(focus exact rfl))
   |((with_reducible apply aaV);(focus exact rfl))
   |((with_reducible apply aaW);(focus exact rfl);(focus exact rfl))
   |((with_reducible apply abn);(focus exact rfl);(focus exact rfl);(focus ((conv=>lhs;whnf);(first|done|fail)));(focus exact rfl);(focus (((repeat (first|with_reducible exact aR .. |with_reducible apply dw));first|done|fail);(first|done|fail)));(focus ((omega);(first|done|fail))))
   |((with_reducible apply abo);(focus exact rfl);(focus exact rfl);(focus ((conv=>lhs;whnf);(first|done|fail)));(focus exact rfl);(focus (((repeat (first|with_reducible exact aR .. |with_reducible apply dw));first|done|fail);(first|done|fail)));(focus ((omega);(first|done|fail))))
   |((with_reducible apply QV);(focus exact rfl);(focus exact rfl);(focus ((conv=>lhs;whnf);(first|done|fail)));(focus exact rfl);(focus (((repeat (first|with_reducible exact aR .. |with_reducible apply dw));first|done|fail);(first|done|fail)));(focus ((omega);(first|done|fail)));(focus ((omega);(first|done|fail))))
   |((with_reducible apply QW);(focus exact rfl);(focus exact rfl);(focus ((conv=>lhs;whnf);(first|done|fail)));(focus exact rfl);(focus (((repeat (first|with_reducible exact aR .. |with_reducible apply dw));first|done|fail);(first|done|fail)));(focus ((omega);(first|done|fail)));(focus ((omega);(first|done|fail))))
   |((with_reducible apply bC);(focus exact rfl);(focus exact rfl);(focus ((first|((with_reducible apply FX);(focus ((conv=>lhs;whnf);(first|done|fail))))|((with_reducible apply Dc);(focus ((conv=>lhs;whnf);(first|done|fail))))|((with_reducible apply De);(focus exact rfl))|((with_reducible apply F5);(focus exact rfl);(focus exact rfl))|((with_reducible apply F6);(focus exact rfl);(focus exact rfl))|((with_reducible apply F7);(focus exact rfl);(focus exact rfl))|((with_reducible apply F8);(focus exact rfl);(focus exact rfl))|((with_reducible apply F9);(focus exact rfl);(focus exact rfl))|((with_reducible apply Ga);(focus exact rfl);(focus exact rfl))|((with_reducible apply F3);(focus exact rfl))|((with_reducible apply FY);(focus exact rfl);(focus ((conv=>lhs;whnf);(first|done|fail))))|((with_reducible apply FZ);(focus exact rfl);(focus ((conv=>lhs;whnf);(first|done|fail))))|((with_reducible apply Gd);(focus exact rfl);(focus ((conv=>lhs;whnf);(first|done|fail))))|((with_reducible apply Gf);(focus exact rfl))|((with_reducible apply Gg);(focus exact rfl);(focus ((conv=>lhs;whnf);(first|done|fail))))|((with_reducible apply Gh);(focus exact rfl);(focus ((conv=>lhs;whnf);(first|done|fail))))|((with_reducible apply Gi);(focus ((conv=>lhs;whnf);(first|done|fail))))|((with_reducible apply Gj);(focus exact rfl))|((with_reducible apply Gl);(focus exact rfl))|((with_reducible apply Gm);(focus exact rfl))|with_reducible exact F4|((with_reducible apply Gn);(focus exact rfl);(focus exact rfl);(focus exact rfl))|((with_reducible apply Gx);(focus exact rfl);(focus exact rfl);(focus ((omega);(first|done|fail))))|((with_reducible apply Df);(focus exact rfl);(focus exact rfl);(focus ((omega);(first|done|fail)));(focus ((omega);(first|done|fail))))|((with_reducible apply Gp);(focus exact rfl);(focus exact rfl);(focus ((omega);(first|done|fail)));(focus ((omega);(first|done|fail))))|((with_reducible apply Gb);(focus exact rfl);(focus exact rfl);(focus ((omega);(first|done|fail)));(focus ((omega);(first|done|fail))))|((with_reducible apply Gc);(focus exact rfl);(focus exact rfl);(focus ((omega);(first|done|fail)));(focus ((omega);(first|done|fail))))|((with_reducible apply Gs);(focus exact rfl);(focus exact rfl);(focus ((first|assumption|kernel_rfl);(first|done|fail))))|((with_reducible apply Gt);(focus exact rfl);(focus exact rfl);(focus ((first|assumption|kernel_rfl);(first|done|fail))))|((with_reducible apply Gu);(focus exact rfl);(focus exact rfl))|((with_reducible apply Gv);(focus exact rfl);(focus exact rfl))|((with_reducible apply Gw);(focus exact rfl);(focus exact rfl);(focus ((omega);(first|done|fail)));(focus ((omega);(first|done|fail)))));(first|done|fail))))
   |((with_reducible apply abv);(focus exact rfl);(focus exact rfl);(focus (repeat (first|with_reducible exact EvL.nil|((with_reducible apply EvL.cons);(conv=>lhs;whnf)))));(focus (repeat (first|with_reducible exact EvL.nil|((with_reducible apply EvL.cons);(conv=>lhs;whnf))))))
   |((with_reducible apply abp);(focus exact rfl);(focus exact rfl);(focus (repeat (first|with_reducible exact Fill.nil|((with_reducible apply Fill.cons);(conv=>lhs;whnf);(conv=>lhs;whnf);(focus exact rfl);(conv=>lhs;whnf))))))
   |((with_reducible apply abq);(focus exact rfl);(focus exact rfl);(focus (repeat (first|with_reducible exact Fill.nil|((with_reducible apply Fill.cons);(conv=>lhs;whnf);(conv=>lhs;whnf);(focus exact rfl);(conv=>lhs;whnf))))))
   |((with_reducible apply abt);(focus exact rfl);(focus exact rfl);(focus ((conv=>lhs;whnf);(first|done|fail)));(focus ((conv=>lhs;whnf);(first|done|fail))))
   |((with_reducible apply aaY);(focus exact rfl);(focus exact rfl))
   |((with_reducible apply aa2);(focus exact rfl);(focus exact rfl);(focus exact rfl);(focus ((repeat (first|with_reducible exact ai.here|with_reducible apply ai.there|with_reducible apply ai.app));(first|done|fail)));(focus ((conv=>lhs;whnf);(first|done|fail))))
   |((with_reducible apply Lj);(focus exact rfl);(focus exact rfl);(focus exact rfl);(focus ((repeat (first|with_reducible exact ai.here|with_reducible apply ai.there|with_reducible apply ai.app));(first|done|fail)));(focus ((conv=>lhs;whnf);(first|done|fail))))
   |((with_reducible apply aa3);(focus exact rfl);(focus exact rfl);(focus exact rfl);(focus (((repeat (first|with_reducible exact aR .. |with_reducible apply dw));first|done|fail);(first|done|fail)));(focus ((conv=>lhs;whnf);(first|done|fail))))
   |((with_reducible apply ko);(focus exact rfl);(focus exact rfl);(focus exact rfl);(focus (((repeat (first|with_reducible exact aR .. |with_reducible apply dw));first|done|fail);(first|done|fail)));(focus ((conv=>lhs;whnf);(first|done|fail))))
   |((with_reducible apply aa4);(focus exact rfl);(focus exact rfl);(focus exact rfl);(focus (((repeat (first|with_reducible exact aR .. |with_reducible apply dw));first|done|fail);(first|done|fail)));(focus ((conv=>lhs;whnf);(first|done|fail))))
   |((with_reducible apply aa5);(focus exact rfl);(focus exact rfl);(focus exact rfl);(focus (((repeat (first|with_reducible exact aR .. |with_reducible apply dw));first|done|fail);(first|done|fail)));(focus ((conv=>lhs;whnf);(first|done|fail))))
   |((with_reducible apply abu);(focus exact rfl);(focus exact rfl);(focus ((conv=>lhs;whnf);(first|done|fail)));(focus ((conv=>lhs;whnf);(first|done|fail)));(focus exact rfl);(focus ((repeat (first|with_reducible exact ai.here|with_reducible apply ai.there|with_reducible apply ai.app));(first|done|fail)));(focus ((conv=>lhs;whnf);(first|done|fail))))
   |((with_reducible apply aa9);(focus exact rfl);(focus exact rfl);(focus ((conv=>lhs;whnf);(first|done|fail)));(focus (((repeat (first|with_reducible exact aR .. |with_reducible apply dw));first|done|fail);(first|done|fail))))
   |((with_reducible apply aba);(focus exact rfl);(focus exact rfl);(focus ((conv=>lhs;whnf);(first|done|fail)));(focus ((repeat (first|with_reducible exact ai.here|with_reducible apply ai.there|with_reducible apply ai.app));(first|done|fail))))
   |((with_reducible apply abh (re:=_::_));(focus exact rfl);(focus exact rfl);(focus ((first|((with_reducible apply FX);(focus ((conv=>lhs;whnf);(first|done|fail))))|((with_reducible apply Dc);(focus ((conv=>lhs;whnf);(first|done|fail))))|((with_reducible apply De);(focus exact rfl))|((with_reducible apply F5);(focus exact rfl);(focus exact rfl))|((with_reducible apply F6);(focus exact rfl);(focus exact rfl))|((with_reducible apply F7);(focus exact rfl);(focus exact rfl))|((with_reducible apply F8);(focus exact rfl);(focus exact rfl))|((with_reducible apply F9);(focus exact rfl);(focus exact rfl))|((with_reducible apply Ga);(focus exact rfl);(focus exact rfl))|((with_reducible apply F3);(focus exact rfl))|((with_reducible apply FY);(focus exact rfl);(focus ((conv=>lhs;whnf);(first|done|fail))))|((with_reducible apply FZ);(focus exact rfl);(focus ((conv=>lhs;whnf);(first|done|fail))))|((with_reducible apply Gd);(focus exact rfl);(focus ((conv=>lhs;whnf);(first|done|fail))))|((with_reducible apply Gf);(focus exact rfl))|((with_reducible apply Gg);(focus exact rfl);(focus ((conv=>lhs;whnf);(first|done|fail))))|((with_reducible apply Gh);(focus exact rfl);(focus ((conv=>lhs;whnf);(first|done|fail))))|((with_reducible apply Gi);(focus ((conv=>lhs;whnf);(first|done|fail))))|((with_reducible apply Gj);(focus exact rfl))|((with_reducible apply Gl);(focus exact rfl))|((with_reducible apply Gm);(focus exact rfl))|with_reducible exact F4|((with_reducible apply Gn);(focus exact rfl);(focus exact rfl);(focus exact rfl))|((with_reducible apply Gx);(focus exact rfl);(focus exact rfl);(focus ((omega);(first|done|fail))))|((with_reducible apply Df);(focus exact rfl);(focus exact rfl);(focus ((omega);(first|done|fail)));(focus ((omega);(first|done|fail))))|((with_reducible apply Gp);(focus exact rfl);(focus exact rfl);(focus ((omega);(first|done|fail)));(focus ((omega);(first|done|fail))))|((with_reducible apply Gb);(focus exact rfl);(focus exact rfl);(focus ((omega);(first|done|fail)));(focus ((omega);(first|done|fail))))|((with_reducible apply Gc);(focus exact rfl);(focus exact rfl);(focus ((omega);(first|done|fail)));(focus ((omega);(first|done|fail))))|((with_reducible apply Gs);(focus exact rfl);(focus exact rfl);(focus ((first|assumption|kernel_rfl);(first|done|fail))))|((with_reducible apply Gt);(focus exact rfl);(focus exact rfl);(focus ((first|assumption|kernel_rfl);(first|done|fail))))|((with_reducible apply Gu);(focus exact rfl);(focus exact rfl))|((with_reducible apply Gv);(focus exact rfl);(focus exact rfl))|((with_reducible apply Gw);(focus exact rfl);(focus exact rfl);(focus ((omega);(first|done|fail)));(focus ((omega);(first|done|fail)))));(first|done|fail)));(focus ((repeat (first|exact tu|refine rF rfl (by repeat (first|with_reducible exact ai.here|with_reducible apply ai.there|with_reducible apply ai.app)) (by first|exact rfl|(conv=>lhs;whnf)) rfl ?_|refine Aq rfl (by(repeat (first|with_reducible exact aR .. |with_reducible apply dw));first|done|fail) (by first|exact rfl|(conv=>lhs;whnf)) rfl ?_|refine Ar rfl (by(repeat (first|with_reducible exact aR .. |with_reducible apply dw));first|done|fail) (by first|exact rfl|(conv=>lhs;whnf)) rfl ?_|refine Au rfl (by repeat (first|with_reducible exact ai.here|with_reducible apply ai.there|with_reducible apply ai.app)) (by first|exact rfl|(conv=>lhs;whnf)) rfl ?_|refine Av rfl (by(repeat (first|with_reducible exact aR .. |with_reducible apply dw));first|done|fail) (by first|exact rfl|(conv=>lhs;whnf)) rfl ?_|refine Aw rfl (by(repeat (first|with_reducible exact aR .. |with_reducible apply dw));first|done|fail) (by first|exact rfl|(conv=>lhs;whnf)) rfl ?_));(first|done|fail))))
   |((with_reducible apply abg (re:=_::_));(focus exact rfl);(focus exact rfl);(focus ((conv=>lhs;whnf);(first|done|fail)));(focus ((conv=>lhs;whnf);(first|done|fail)));(focus exact rfl);(focus ((repeat (first|with_reducible exact ai.here|with_reducible apply ai.there|with_reducible apply ai.app));(first|done|fail)));(focus ((conv=>lhs;whnf);(first|done|fail)));(focus ((repeat (first|exact tu|refine rF rfl (by repeat (first|with_reducible exact ai.here|with_reducible apply ai.there|with_reducible apply ai.app)) (by first|exact rfl|(conv=>lhs;whnf)) rfl ?_|refine Aq rfl (by(repeat (first|with_reducible exact aR .. |with_reducible apply dw));first|done|fail) (by first|exact rfl|(conv=>lhs;whnf)) rfl ?_|refine Ar rfl (by(repeat (first|with_reducible exact aR .. |with_reducible apply dw));first|done|fail) (by first|exact rfl|(conv=>lhs;whnf)) rfl ?_|refine Au rfl (by repeat (first|with_reducible exact ai.here|with_reducible apply ai.there|with_reducible apply ai.app)) (by first|exact rfl|(conv=>lhs;whnf)) rfl ?_|refine Av rfl (by(repeat (first|with_reducible exact aR .. |with_reducible apply dw));first|done|fail) (by first|exact rfl|(conv=>lhs;whnf)) rfl ?_|refine Aw rfl (by(repeat (first|with_reducible exact aR .. |with_reducible apply dw));first|done|fail) (by first|exact rfl|(conv=>lhs;whnf)) rfl ?_));(first|done|fail))))
   |fail)
  |((with_reducible apply bY.all);intro _)
  |with_reducible apply bY.imp)
 with_reducible exact bY.refl _):G:=r.h x
theorem jB.sub{α:Type}{F0:List α}:∀{F:List α},jB F0 F->Sub F0 F:=λ{F} h=>by
 have:∀k:List α,(∀x∈k,x∈F)->Sub k F:=by
  intro k;induction k with
  |nil=>intro _;exact .nil
  |cons a k ih=>intro hk;exact .cons (hk a (aR ..)) (ih λx hx=>hk x (dw _ hx))
 exact this F0 h.mem
inductive cO{α:Type}:List α->List α->List α->Prop
 |nil {l:List α}:cO [] l l
 |cons {a:α} {k l m:List α} (h:cO k l m):cO (a::k) l (a::m)
 |self {k:List α}:cO k [] k
 |app {k l:List α}:cO k l (k++l)
theorem cO.eq{α:Type}:∀{k l m:List α},cO k l m->k++l=m
 |_,_,_,.nil=>rfl
 |_,_,_,.self=>fU _
 |_,_,_,.app=>rfl
 |_,_,_,.cons h=>by rw[fE,h.eq]
section
variable {B:List Nat} {w0:Wd} {kl kl' bE:List OA} {F:List aD} {K:KO} {ds:List Tmp} {rest:List aW} {n:Nat} {l:List (Nat×Value)} {D:List Deferred} {pm:Option FrameMode} {ro:Option Nat} {d:Nat} {g:Option (Tmp×Bool)}
theorem aB{Y:Type}{f:Operand}{xs:List Operand}{re:List eZ}{fn:Fn}{first captured vs as:List Value}{k1:List OA}{F1:List aD}{val:Y->Value}{k1':Y->List OA}{fs:Y->List aD}{pr:Y->Prop}{fq:Y->List OA}{F2:Y->List aD}
 (hc:aX P fn as captured k1 F1 val k1' fs pr) (hn:Nat.blt d n=true:=by rfl) (hg:bH l g=true:=by rfl) (hf:ev l f=.func fn ⟨first⟩ ⟨captured⟩:=by rfl) (hx:EvL (ev l) xs vs:=by repeat (first|with_reducible exact EvL.nil|((with_reducible apply EvL.cons);(conv=>lhs;whnf)))) (ha:first++vs=as:=by rfl)
 (hk:aI k1 kl bE:=by exact pI) (hF:Sub F1 F:=by exact nZ)
 (hak:∀y,cO (k1' y) bE (fq y):=by intro y;repeat (first|exact cO.nil|apply cO.cons|exact cO.self|exact cO.app)) (Gy:∀y,cO (fs y) F (F2 y):=by intro y;repeat (first|exact cO.nil|apply cO.cons|exact cO.self|exact cO.app))
 (hs:∀y,pr y->Same P re (ev ((d,val y)::l)) ((d,val y)::l) B w0 (fq y) (F2 y):=by intro _ _;repeat (first|exact tu|refine rF rfl (by repeat (first|with_reducible exact ai.here|with_reducible apply ai.there|with_reducible apply ai.app)) (by first|exact rfl|(conv=>lhs;whnf)) rfl ?_|refine Aq rfl (by(repeat (first|with_reducible exact aR .. |with_reducible apply dw));first|done|fail) (by first|exact rfl|(conv=>lhs;whnf)) rfl ?_|refine Ar rfl (by(repeat (first|with_reducible exact aR .. |with_reducible apply dw));first|done|fail) (by first|exact rfl|(conv=>lhs;whnf)) rfl ?_|refine Au rfl (by repeat (first|with_reducible exact ai.here|with_reducible apply ai.there|with_reducible apply ai.app)) (by first|exact rfl|(conv=>lhs;whnf)) rfl ?_|refine Av rfl (by(repeat (first|with_reducible exact aR .. |with_reducible apply dw));first|done|fail) (by first|exact rfl|(conv=>lhs;whnf)) rfl ?_|refine Aw rfl (by(repeat (first|with_reducible exact aR .. |with_reducible apply dw));first|done|fail) (by first|exact rfl|(conv=>lhs;whnf)) rfl ?_|refine Q0 (by first|((with_reducible apply FX);(focus ((conv=>lhs;whnf);(first|done|fail))))|((with_reducible apply Dc);(focus ((conv=>lhs;whnf);(first|done|fail))))|((with_reducible apply De);(focus exact rfl))|((with_reducible apply F5);(focus exact rfl);(focus exact rfl))|((with_reducible apply F6);(focus exact rfl);(focus exact rfl))|((with_reducible apply F7);(focus exact rfl);(focus exact rfl))|((with_reducible apply F8);(focus exact rfl);(focus exact rfl))|((with_reducible apply F9);(focus exact rfl);(focus exact rfl))|((with_reducible apply Ga);(focus exact rfl);(focus exact rfl))|((with_reducible apply F3);(focus exact rfl))|((with_reducible apply FY);(focus exact rfl);(focus ((conv=>lhs;whnf);(first|done|fail))))|((with_reducible apply FZ);(focus exact rfl);(focus ((conv=>lhs;whnf);(first|done|fail))))|((with_reducible apply Gd);(focus exact rfl);(focus ((conv=>lhs;whnf);(first|done|fail))))|((with_reducible apply Gf);(focus exact rfl))|((with_reducible apply Gg);(focus exact rfl);(focus ((conv=>lhs;whnf);(first|done|fail))))|((with_reducible apply Gh);(focus exact rfl);(focus ((conv=>lhs;whnf);(first|done|fail))))|((with_reducible apply Gi);(focus ((conv=>lhs;whnf);(first|done|fail))))|((with_reducible apply Gj);(focus exact rfl))|((with_reducible apply Gl);(focus exact rfl))|((with_reducible apply Gm);(focus exact rfl))|with_reducible exact F4|((with_reducible apply Gn);(focus exact rfl);(focus exact rfl);(focus exact rfl))|((with_reducible apply Gx);(focus exact rfl);(focus exact rfl);(focus ((omega);(first|done|fail))))|((with_reducible apply Df);(focus exact rfl);(focus exact rfl);(focus ((omega);(first|done|fail)));(focus ((omega);(first|done|fail))))|((with_reducible apply Gp);(focus exact rfl);(focus exact rfl);(focus ((omega);(first|done|fail)));(focus ((omega);(first|done|fail))))|((with_reducible apply Gb);(focus exact rfl);(focus exact rfl);(focus ((omega);(first|done|fail)));(focus ((omega);(first|done|fail))))|((with_reducible apply Gc);(focus exact rfl);(focus exact rfl);(focus ((omega);(first|done|fail)));(focus ((omega);(first|done|fail))))|((with_reducible apply Gs);(focus exact rfl);(focus exact rfl);(focus ((first|assumption|kernel_rfl);(first|done|fail))))|((with_reducible apply Gt);(focus exact rfl);(focus exact rfl);(focus ((first|assumption|kernel_rfl);(first|done|fail))))|((with_reducible apply Gu);(focus exact rfl);(focus exact rfl))|((with_reducible apply Gv);(focus exact rfl);(focus exact rfl))|((with_reducible apply Gw);(focus exact rfl);(focus exact rfl);(focus ((omega);(first|done|fail)));(focus ((omega);(first|done|fail))))) rfl ?_))
 (next:∀y,pr y->R (λh=>aA P ds rest (act n ((d,val y)::l) D pm ro) h K) B w0 (fq y) (F2 y)):
 R (λh=>aA P ds (⟨⟨some d,g,.call f xs⟩,re⟩::rest) (act n l D pm ro) h K) B w0 kl F:=
 abj hc hn hg hf hx ha hk hF (λy hy=>by rw[(hak y).eq,(Gy y).eq];exact hs y hy) (λy hy=>by rw[(hak y).eq,(Gy y).eq];exact next y hy)
abbrev gy(P:Program)(f:FuncId)(args:List Value)(F:List aD)(v:Value):Prop:=aX P (.func f) args [] [] F (λ_:Unit=>v) (λ_=>[]) (λ_=>[]) (λ_=>True)
theorem aT{Y:Type}{f:FuncId}{args cap:List Value}{kl:List OA}{F:List aD}{val:Y->Value}{kl':Y->List OA}{fs:Y->List aD}{pr:Y->Prop}{c:bV}{m:Nat}{l0:List (Nat×Value)}(cf:eU)(hF:(qj P o8 qW).F f=some cf)
 (hb:∀B w0,R (λh=>EV P c (act m l0 [] none none) h (CZ cf (Left B w0 val kl' fs pr))) B w0 kl F)
 (h1:cf.body=c:=by conv=>lhs;(reduce;(try simp only[Int.reduceOfNat,Int.reduceNegSucc]))) (h2:qh cf.ntmps (gX (args++cap))=m:=by conv=>lhs;whnf) (h3:nY 0 (args++cap) []=l0:=by dsimp only[nY,Nat.reduceAdd,List.append_nil,List.cons_append,List.nil_append]):aX P (.func f) args cap kl F val kl' fs pr:=
 abe cf hF (by rw[h1,h2,h3];exact hb)
theorem cZ{α:Type}(E:Enc α){x i:Operand}{v:Value}{xs:List α}{size:Nat}{k:Nat}{kk:IntKind}{F2:α->E.Y->List aD}(hn:Nat.blt d n=true:=by rfl)(hg:bH l g=true:=by rfl)(hx:ev l x=v:=by conv=>lhs;whnf)(hi:ev l i=.int kk (k:Int):=by rfl)
 (hf:ae E v xs∈F:=by exact nA) (hs:E.n=size:=by rfl) (h1:k<xs.length:=by omega)
 (ha:∀z y,cO (E.fs z y) F (F2 z y):=by intro z y;repeat (first|exact cO.nil|apply cO.cons|exact cO.self|exact cO.app))
 (next:∀b o z y,xs[k]? =some z->R (λh=>aA P ds rest (act n ((d,.pointer (some ⟨b,o,none⟩))::l) D pm ro) h K) B w0 kl (bW b o (E.pat z y)::F2 z y)):
 R (λh=>aA P ds (⟨⟨some d,g,.gq size x i⟩,[]⟩::rest) (act n l D pm ro) h K) B w0 kl F:=
 (Ll hn hg hx hi hf hs (by omega) (by omega)).h λb o z y hz=>by rw[(ha z y).eq];exact next b o z y (by simpa using hz)
theorem aj{Y:Type}{o:Out}{cf:eU}{vs:List Value}{val:Y->Value}{k1:Y->List OA}{fs:Y->List aD}{pr:Y->Prop}(y:Y)
 (hr:RS l kl cf.results vs:=by exact Ay) (hv:rG vs=val y:=by rfl) (hp:pr y)
 (hk:aI (k1 y) kl bE:=by exact pI) (hF:Sub (fs y) F:=by exact nZ)
 (ho:o=.normal\/o=.ret:=by first|exact .inl rfl|exact .inr rfl):R (λh=>CZ cf (Left B w0 val k1 fs pr) o (act n l [] none ro) h) B w0 kl F:=
 abk y hr hv hp hk hF ho
theorem bP{A:OA}{fs F2:List aD}{Q:IH->Prop}(hA:xm A fs)(hk:ai A kl kl':=by exact gQ)(ha:cO fs F F2:=by repeat (first|exact cO.nil|apply cO.cons|exact cO.self|exact cO.app))(h:R Q B w0 kl' F2):R Q B w0 kl F:=
 abb hA hk (by rw[ha.eq];exact h)
theorem bR{X:Type}{c:bV}{l0:List (Nat×Value)}{L2:X->List (Nat×Value)}{Q3:X->List OA}{Q4:X->List aD}(m:X->Nat)(L:X->List (Nat×Value))(KL:X->List OA)(FF:X->List aD)(inv:X->Prop)(x0:X)(hi:inv x0)
 (h0:vL l (L x0) l0:=by repeat (first|exact vL.nil|(apply vL.drop;(focus exact rfl))|(apply vL.keep;(focus exact rfl)))) (hl:sub (L x0++l0) l:=by repeat (first|exact trivial|refine⟨rfl,?_⟩))
 (hk:aI (KL x0) kl bE:=by exact pI) (hF:Sub (FF x0) F:=by exact nZ)
 (hak:∀x,cO (KL x) bE (Q3 x):=by intro y;repeat (first|exact cO.nil|apply cO.cons|exact cO.self|exact cO.app)) (Gy:∀x,cO (FF x) F (Q4 x):=by intro y;repeat (first|exact cO.nil|apply cO.cons|exact cO.self|exact cO.app))
 (hal:∀x,cO (L x) l0 (L2 x):=by intro y;repeat (first|exact cO.nil|apply cO.cons|exact cO.self|exact cO.app))
 (body:∀x,inv x->R (λh=>EV P c (act n (L2 x) D pm ro) h (vK (LI n D pm ro B w0 m L KL FF inv l0 bE F) (m x) K)) B w0 (Q3 x) (Q4 x)):
 R (λh=>EV P (.loop c) (act n l D pm ro) h K) B w0 kl F:=
 abl m L KL FF inv x0 hi l0 hl hk hF λx hx=>by rw[(hak x).eq,(Gy x).eq,(hal x).eq];exact body x hx
theorem aL{X:Type}{m:X->Nat}{L:X->List (Nat×Value)}{KL:X->List OA}{FF:X->List aD}{inv:X->Prop}{l0:List (Nat×Value)}{Q5 fq:List OA}{F0:List aD}{m0:Nat}(x:X)(hm:m x<m0)(hi:inv x)
 (hl:sub (L x++l0) l:=by repeat (first|exact trivial|refine⟨rfl,?_⟩)) (ha:cO (KL x) bE Q5:=by repeat (first|exact cO.nil|apply cO.cons|exact cO.self|exact cO.app))
 (hk:aI Q5 kl fq:=by exact pI) (hF:Sub (FF x) F:=by exact nZ)
 (uz:jB F0 F:=by repeat (first|exact jB.here|apply jB.cons|apply jB.app)):
 R (λh=>vK (LI n D pm ro B w0 m L KL FF inv l0 bE F0) m0 K .normal (act n l D pm ro) h) B w0 kl F:=
 abm x hm hi hl (by rw[ha.eq];exact hk) hF uz
end
end Go.Ideal
namespace Go.Ideal
class Az (e:Bool) (f t:outParam Prop):Prop where
 no:e=false->f
 yes:e=true->t
instance (priority:=low) ajg {e:Bool}:Az e (e=false) (e=true):=⟨id,id⟩
instance ajh {p:Prop} {_:Decidable p}:Az (decide p) (¬p) p:=⟨Jr,si⟩
instance aji {p:Prop} {_:Decidable p}:Az (!decide p) p (¬p):=⟨λe=>by simpa using e,λe=>by simpa using e⟩
section
variable {P:Program}
variable {B:List Nat} {w0:Wd} {kl:List OA} {F:List aD} {K:KO} {ds:List Tmp} {rest:List aW} {n:Nat} {l:List (Nat×Value)} {D:List Deferred} {pm:Option FrameMode} {ro:Option Nat} {t1 t2:Nat}
theorem gG{e:Bool}{f t:Prop}[Az e f t](h1:f->R (λh=>aA P ds rest (act n ((t1,.bool false)::(t2,.bool false)::l) D pm ro) h K) B w0 kl F)(h2:t->R (λh=>aA P ds rest (act n ((t1,.bool true)::(t2,.bool true)::l) D pm ro) h K) B w0 kl F):
 R (λh=>aA P ds rest (act n ((t1,.bool e)::(t2,.bool e)::l) D pm ro) h K) B w0 kl F:=
 g_b (λx=>h1 (Az.no x)) (λx=>h2 (Az.yes x))
end
section
instance ajj {n:Nat}:OfNat Operand n:=⟨.tmp n⟩
abbrev kI(n:Int):Operand:=.const (.int .i64 n)
abbrev kT:Operand:=.const (.bool true)
abbrev kF:Operand:=.const (.bool false)
abbrev vI:Value:=.int .i64 0
abbrev vS:Value:=.slice none 0 0
abbrev vE:Value:=.string ⟨⟨[]⟩⟩
abbrev kC(f:Nat)(l:List Operand):au:=.call (.func f) l
abbrev kS(n:Nat)(e:au):aW:=⟨⟨some n,none,e⟩,[]⟩
abbrev kG(n c:Nat)(e:au):aW:=⟨⟨some n,some ⟨c,true⟩,e⟩,[]⟩
abbrev kH(n c:Nat)(e:au):aW:=⟨⟨some n,some ⟨c,false⟩,e⟩,[]⟩
abbrev kN(e:au):aW:=⟨⟨none,none,e⟩,[]⟩
abbrev kM(n:Nat)(x:Operand):aW:=kS n (.mv x)
abbrev kO(l:List aW):bV:=.ops (l.filterMap λx=>x.s.dst) l
end
end Go.Ideal
namespace Go.Ideal
noncomputable def Gz(L:Lay):Wd:=⟨jd L,λi=>i<(jd L).next,λ_ h=>h⟩
end Go.Ideal
namespace Go.Ideal
open Go.ChangeShapes Go.WideShapes Go.ChangeAt Go.RowKit
variable {P:Program}
def AA{α:Type}(P:Program)(t:TypeId)(E:Enc α):Prop:=∀(w:Wd) (H:Type) (d:DataW H) (cs:List Value),(∀i,i<w.h.next->w.z i)->gP P w.h t cs d->∃a y,cs=E.pat a y/\∀f∈E.fs a y,f.p w
theorem Lr{α:Type}{p:Nat->α->Prop}:∀n,(∀k,k<n->∃a,p k a)->∃l:List α,l.length=n/\∀(k:Nat) a,l[k]? =some a->p k a
 |0,_=>⟨[],rfl,λk a h=>by cases h⟩
 |n+1,h=>by
  obtain⟨l,h1,h2⟩:=Lr n (λk hk=>h k (by omega));obtain⟨a,ha⟩:=h n (by omega);refine⟨l++[a],by simp[h1],λk b hb=>?_⟩;by_cases hk:k<l.length
  ·rw[jF hk]at hb;exact h2 k b hb
  ·rw[lM (by omega)]at hb;have hk0:k=n:=by have:=(dU.1 hb).1;simp at this;omega
   subst hk0;rw[h1]at hb;simp at hb;subst hb;exact ha
def Q6{α β:Type}(E1:Enc α)(E2:Enc β):Enc (α×β):=⟨E1.n+E2.n,E1.Y×E2.Y,λa y=>E1.pat a.1 y.1++E2.pat a.2 y.2,λa y=>E1.fs a.1 y.1++E2.fs a.2 y.2,λa y=>by rw[dN,E1.len,E2.len]⟩
def Q7:Enc Unit:=⟨0,Unit,λ_ _=>[],λ_ _=>[],λ_ _=>rfl⟩
inductive AB(P:Program):{α:Type}->List Field->Enc α->Prop
 |nil:AB P [] Q7
 |cons {α β:Type} {f:Field} {fs:List Field} {E1:Enc α} {E2:Enc β} (h:AA P f.type E1) (hn:P.cellsOf f.type=E1.n) (t:AB P fs E2):AB P (f::fs) (Q6 E1 E2)
theorem AB.GA{w:Wd}{H:Type}(hz:∀i,i<w.h.next->w.z i):∀{α:Type} {fs:List Field} {E:Enc α},AB P fs E->∀(o0:Nat) (cs:List Value) (ds:List (DataW H)),cs.length=(fs.map λf=>P.cellsOf f.type).sum->ds.length=fs.length->
 fs.map (·.offset)=sums o0 (fs.map λf=>P.cellsOf f.type)->(∀(j:Nat) f d,fs[j]? =some f->ds[j]? =some d->gP P w.h f.type ((cs.drop (f.offset - o0)).take (P.cellsOf f.type)) d)->∃a y,cs=E.pat a y/\∀f∈E.fs a y,f.p w
 |_,_,_,.nil,o0,cs,ds,h1,h2,h3,h4=>⟨(),(),qM.1 (by simpa using h1),λf hf=>by cases hf⟩
 |_,_,_,.cons (f:=f) (fs:=fs) (E1:=E1) (E2:=E2) h hn t,o0,cs,ds,h1,h2,h3,h4=>by
  match ds,h2 with
  |d::ds,h2=>
   simp only[lK,List.sum_cons,sums,zw]at h1 h3;obtain⟨ho,h3⟩:=h3;have r0:=h4 0 f d rfl rfl;rw[ho,qc,sj]at r0;obtain⟨a,y,q1,q2⟩:=h w H d _ hz r0;obtain⟨b,z,u1,u2⟩:=AB.GA hz t (o0+P.cellsOf f.type) (cs.drop (P.cellsOf f.type)) ds (by rw[iZ];omega) (by simpa using h2) h3 (λj g e hg he=>by
    have:=h4 (j+1) g e hg he;rw[List.drop_drop];have hle:o0+P.cellsOf f.type<=g.offset:=by
     have hj:(fs.map (·.offset))[j]? =some g.offset:=by rw[bU,hg];rfl
     rw[h3]at hj;have hs:(fs.map λf=>P.cellsOf f.type)[j]? =some (P.cellsOf g.type):=by rw[bU,hg];rfl
     exact(xg _ ([]:List Value) (o0+P.cellsOf f.type) j _ _ hj hs).2
    rw[show P.cellsOf f.type+(g.offset - (o0+P.cellsOf f.type))=g.offset - o0 by omega];exact this)
   refine⟨(a,b),(y,z),?_,?_⟩
   ·show cs=E1.pat a y++E2.pat b z;rw[<- q1,<- u1,yl]
   ·intro g hg;rcases gF.1 hg with hg|hg
    ·exact q2 g hg
    ·exact u2 g hg
theorem AA.conv{α β:Type}{t:TypeId}{E:Enc α}{E':Enc β}(h:AA P t E)(hc:∀a y,∃b z,E.pat a y=E'.pat b z/\E.fs a y=E'.fs b z):AA P t E':=λw H d cs hz r=>by
 obtain⟨a,y,q1,q2⟩:=h w H d cs hz r;obtain⟨b,z,e1,e2⟩:=hc a y;exact⟨b,z,by rw[q1,e1],λf hf=>q2 f (by rw[e2];exact hf)⟩
section
variable {H:Type} {enc:TypeId×Value->H} {W:World} {K:TypeId->Prop}
def uA(P:Program)(w:Wd)(t:TypeId)(v:Value){H:Type}(d:DataW H):Prop:=∃cs,gP P w.h t cs d/\((iC P t=true/\v=.agg ⟨cs⟩)\/(iC P t=false/\cs=[v]))
theorem uA.agg{α:Type}{w:Wd}{t:TypeId}{v:Value}{d:DataW H}{E:Enc α}(h:uA P w t v d)(hz:∀i,i<w.h.next->w.z i)(ha:iC P t=true)(hr:AA P t E):∃a y,v=.agg ⟨E.pat a y⟩/\∀f∈E.fs a y,f.p w:=by
 obtain⟨cs,r,⟨_,e⟩|⟨e,_⟩⟩:=h
 ·obtain⟨a,y,rfl,q⟩:=hr w H d cs hz r;exact⟨a,y,e,q⟩
 ·rw[ha]at e;cases e
theorem uA.one{α:Type}{w:Wd}{t:TypeId}{v:Value}{d:DataW H}{E:Enc α}(h:uA P w t v d)(hz:∀i,i<w.h.next->w.z i)(ha:iC P t=false)(hr:AA P t E):∃a y,E.pat a y=[v]/\∀f∈E.fs a y,f.p w:=by
 obtain⟨cs,r,⟨e,_⟩|⟨_,e⟩⟩:=h
 ·rw[ha]at e;cases e
 ·obtain⟨a,y,q0,q⟩:=hr w H d cs hz r;exact⟨a,y,by rw[<- q0,e],q⟩
theorem abw{L:Lay}{t:TypeId}{v v0:Value}{d:DataW H}{w:Wd}(hw:w.h=jd L)(r:xk P (jd L) t v d)(hv:VR (iV L) v v0)(hok:Value.okWide P W .any 0 t v0):uA P w t v d:=by
 obtain⟨cs,r1,h2,h3⟩:=r;refine⟨cs,by rw[hw];exact r1,?_⟩;cases ha:iC P t with
 |true=>
  left;refine⟨rfl,?_⟩;rcases h3 with e|e
  ·subst e;have hagg:∃c,v0=.agg c:=by
    unfold iC at ha;unfold Value.okWide at hok;split at ha
    ·rename_i fs hu;rw[hu]at hok;obtain⟨c,e,_⟩:=hok;exact⟨c,e⟩
    ·rename_i n e hu;rw[hu]at hok;obtain⟨c,e,_⟩:=hok;exact⟨c,e⟩
    ·cases ha
   obtain⟨c,rfl⟩:=hagg
   exfalso
   cases hv<;>simp[cellV]at h2
  ·exact e
 |false=>
  right;refine⟨rfl,?_⟩;rcases h3 with e|e
  ·exact e
  ·subst e
   exfalso
   cases hv with
   |agg hc hl=>
    cases hu:P.underlying t with
    |none=>simp[Value.okWide,Cell.okWide,Cell.ok,hu]at hok
    |some d=>cases d<;>simp[Value.okWide,Cell.okWide,Cell.ok,iC,hu]at hok ha
theorem abx{ts:List TypeId}{vs' vs:List Value}{L:Lay}(hv:aH (iV L) vs' vs):∀(j:Nat) v',vs'[j]? =some v'->∃v,vs[j]? =some v/\VR (iV L) v' v:=by
 intro j;induction j generalizing vs' vs with
 |zero=>
  intro v' h;cases hv with
  |nil=>cases h
  |cons h1 h2=>cases h;exact⟨_,rfl,h1⟩
 |succ j ih=>
  intro v' h;cases hv with
  |nil=>cases h
  |cons h1 h2=>exact ih h2 v' h
theorem GD{a:Nat}{b:Nat->Bool}{c:Bool}:∀{ts:List TypeId} {vs:List Value} {ds:List (DataW H)} {ps:List MemPlace},DataW.TrodAll enc P W a b c ts vs ds ps->vs.length=ts.length/\ds.length=ts.length
 |[],[],[],_,_=>⟨rfl,rfl⟩
 |_::_,_::_,_::_,_,⟨_,_,_,h,_⟩=>by
  have:=GD h;simp[this.1,this.2]
end
