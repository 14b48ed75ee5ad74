/-
  The ideal machine, 53: the road through what needs no thought; lists put in order.
-/
import Derived.Test.YtoohgkkmdnbnfaaGreatDoorIdealJF
import Derived.Test.YtoohgkkmdnbnfaaGreatDoorIdealIF
set_option linter.all false
namespace Go.Ideal
theorem kZ{p:Prop}(h:p:=by repeat (first|exact Sub.nil|(apply Sub.cons;(focus ((repeat (first|with_reducible exact dL .. |with_reducible apply dI));first|done|fail)))|exact jM.sub (by repeat (first|with_reducible exact jM.here|with_reducible apply jM.cons|with_reducible apply jM.app)))):p:=h
theorem lN{p:Prop}(h:p:=by repeat (first|exact aH.nil|(apply aH.cons;(focus (repeat (first|with_reducible exact ay.here|with_reducible apply ay.there|with_reducible apply ay.app))))|with_reducible exact aH.all _|with_reducible exact aH.self _ _|with_reducible apply aH.there)):p:=h
theorem gH{p:Prop}(h:p:=by repeat (first|with_reducible exact ay.here|with_reducible apply ay.there|with_reducible apply ay.app)):p:=h
theorem zh{p:Prop}(h:p:=by repeat (first|exact RS.nil|(apply RS.tmp;(conv=>lhs;whnf))|(apply RS.cell1;(focus exact rfl);(focus (repeat (first|with_reducible exact ay.here|with_reducible apply ay.there|with_reducible apply ay.app)));(conv=>lhs;whnf))|(apply RS.oZ;(focus exact rfl);(focus (repeat (first|with_reducible exact ay.here|with_reducible apply ay.there|with_reducible apply ay.app)));(conv=>lhs;whnf)))):p:=h
theorem vK{p:Prop}(h:p:=by(repeat (first|with_reducible exact dL .. |with_reducible apply dI));first|done|fail):p:=h
variable {P:Program}
section
variable {B:List Nat} {w0:Wd} {kl:List OA} {F:List aF} {K:KO} {ds:List Tmp} {rest:List bR} {n:Nat} {l:List (Nat×Value)} {D:List Deferred} {pm:Option FrameMode} {ro:Option Nat} {d:Nat} {g:Option (Tmp×Bool)}
theorem aah{x i:Operand}{v:Value}{xs:List Int}{k:Nat}{kk:IntKind}(hn:Nat.blt d n=true)(hg:bV l g=true)(hx:ev l x=v)(hi:ev l i=.int kk (k:Int))(hf:ah aa v xs∈F)(h1:k<xs.length):
 dJ (R (λh=>aD P ds (⟨⟨some d,g,.mJ 1 x i⟩,[]⟩::rest) (act n l D pm ro) h K) B w0 kl F)
  (∀b o z,xs[k]? =some z->R (λh=>aD P ds rest (act n ((d,.pointer (some ⟨b,o,none⟩))::l) D pm ro) h K) B w0 kl (eB b o [.int .i64 z]::F)):=
 ⟨λr=>(Qp hn hg hx hi hf (by omega) (by omega)).h λb o z hz=>r b o z (by simpa using hz)⟩
theorem aai{x i:Operand}{v:Value}{xs:List Bool}{k:Nat}{kk:IntKind}(hn:Nat.blt d n=true)(hg:bV l g=true)(hx:ev l x=v)(hi:ev l i=.int kk (k:Int))(hf:ah Qm v xs∈F)(h1:k<xs.length):
 dJ (R (λh=>aD P ds (⟨⟨some d,g,.mJ 1 x i⟩,[]⟩::rest) (act n l D pm ro) h K) B w0 kl F)
  (∀b o z,xs[k]? =some z->R (λh=>aD P ds rest (act n ((d,.pointer (some ⟨b,o,none⟩))::l) D pm ro) h K) B w0 kl (eB b o [.bool z]::F)):=
 ⟨λr=>(Qq hn hg hx hi hf (by omega) (by omega)).h λb o z hz=>r b o z (by simpa using hz)⟩
end
inductive Fill(ρ:Operand->Value):List Value->List (Nat×Nat×Operand)->List Value->Prop
 |nil {cs:List Value}:Fill ρ cs [] cs
 |cons {cs vs cs' r:List Value} {off size:Nat} {x:Operand} {parts:List (Nat×Nat×Operand)} {v:Value} (h0:ρ x=v) (h1:cellsOf v=some vs) (h2:Nat.beq (gV vs) size=true) (h3:jE cs off vs=some cs') (t:Fill ρ cs' parts r):Fill ρ cs ((off,size,x)::parts) r
theorem Fill.eq{ρ:Operand->Value}:∀{zero:List Value} {parts:List (Nat×Nat×Operand)} {cs:List Value},Fill ρ zero parts cs->qa ρ zero parts=some cs
 |_,_,_,.nil=>rfl
 |cs0,_,_,.cons (off:=off) (size:=size) (x:=x) (parts:=parts) h0 h1 h2 h3 t=>by
  have ih:=t.eq;show(match cellsOf (ρ x)with
   |none=>none
   |some vs=>cond (Nat.beq (gV vs) size) (match jE cs0 off vs with
    |some cs=>qa ρ cs parts
    |none=>none) none)=_
  simp only[h0,h1,h2,h3,cond,ih]
theorem aaj{B:List Nat}{w0:Wd}{kl:List OA}{F:List aF}{K:KO}{ds:List Tmp}{rest:List bR}{n:Nat}{l:List (Nat×Value)}{D:List Deferred}{pm:Option FrameMode}{ro:Option Nat}{d:Nat}{g:Option (Tmp×Bool)}
 {t:TypeId} {len:Nat} {zero cs:List Value} {parts:List (Nat×Nat×Operand)} (hn:Nat.blt d n=true) (hg:bV l g=true) (hx:Fill (ev l) zero parts cs):
 dJ (R (λh=>aD P ds (⟨⟨some d,g,.uP t len zero parts⟩,[]⟩::rest) (act n l D pm ro) h K) B w0 kl F)
 (∀b,R (λh=>aD P ds rest (act n ((d,.slice (some ⟨b,0,some 0⟩) len len)::l) D pm ro) h K) B w0 (pt b (.cells cs)::kl) F):=ZR hn hg hx.eq
theorem aak{B:List Nat}{w0:Wd}{kl:List OA}{F:List aF}{K:KO}{ds:List Tmp}{rest:List bR}{n:Nat}{l:List (Nat×Value)}{D:List Deferred}{pm:Option FrameMode}{ro:Option Nat}{d:Nat}{g:Option (Tmp×Bool)}
 {zero cs:List Value} {parts:List (Nat×Nat×Operand)} (hn:Nat.blt d n=true) (hg:bV l g=true) (hx:Fill (ev l) zero parts cs):
 dJ (R (λh=>aD P ds (⟨⟨some d,g,.build zero parts⟩,[]⟩::rest) (act n l D pm ro) h K) B w0 kl F) (R (λh=>aD P ds rest (act n ((d,.agg ⟨cs⟩)::l) D pm ro) h K) B w0 kl F):=fJ hn hg (Zo hx.eq)
theorem aV{B:List Nat}{w0:Wd}{kl:List OA}{F:List aF}{α:Type}{E:Enc α}{v:Value}{xs:List α}{Q:IH->Prop}(hf:ah E v xs∈F)(h:∀a c,v=.slice a xs.length c->R Q B w0 kl F):R Q B w0 kl F:=λw s=>by
 obtain⟨a,c,e⟩:=Qo (s.facts _ hf);exact h a c e w s
section
variable {B:List Nat} {w0:Wd} {kl:List OA} {F:List aF} {K:KO} {ds:List Tmp} {rest:List bR} {n:Nat} {l:List (Nat×Value)} {D:List Deferred} {pm:Option FrameMode} {ro:Option Nat} {t1 t2:Nat}
theorem aM{e:Bool}(h1:e=false->R (λh=>aD P ds rest (act n ((t1,.bool false)::(t2,.bool false)::l) D pm ro) h K) B w0 kl F)(h2:e=true->R (λh=>aD P ds rest (act n ((t1,.bool true)::(t2,.bool true)::l) D pm ro) h K) B w0 kl F):
 R (λh=>aD P ds rest (act n ((t1,.bool e)::(t2,.bool e)::l) D pm ro) h K) B w0 kl F:=by
 cases e
 ·exact h1 rfl
 ·exact h2 rfl
theorem aL{p:Prop}{_:Decidable p}(h1:¬p->R (λh=>aD P ds rest (act n ((t1,.bool false)::(t2,.bool false)::l) D pm ro) h K) B w0 kl F)(h2:p->R (λh=>aD P ds rest (act n ((t1,.bool true)::(t2,.bool true)::l) D pm ro) h K) B w0 kl F):
 R (λh=>aD P ds rest (act n ((t1,.bool (decide p))::(t2,.bool (decide p))::l) D pm ro) h K) B w0 kl F:=
 aM (λe=>h1 (mI e)) (λe=>h2 (gQ e))
theorem aO{p:Prop}{_:Decidable p}(h1:p->R (λh=>aD P ds rest (act n ((t1,.bool false)::(t2,.bool false)::l) D pm ro) h K) B w0 kl F)(h2:¬p->R (λh=>aD P ds rest (act n ((t1,.bool true)::(t2,.bool true)::l) D pm ro) h K) B w0 kl F):
 R (λh=>aD P ds rest (act n ((t1,.bool (!decide p))::(t2,.bool (!decide p))::l) D pm ro) h K) B w0 kl F:=
 aM (λe=>h1 (by simpa using e)) (λe=>h2 (by simpa using e))
end
section
variable {B:List Nat} {w0:Wd} {kl kl':List OA} {F:List aF} {K:KO} {ds:List Tmp} {rest:List bR} {n:Nat} {l:List (Nat×Value)} {D:List Deferred} {pm:Option FrameMode} {ro:Option Nat} {d:Nat} {g:Option (Tmp×Bool)}
theorem aal{x:Operand}{t:TypeId}{v:Value}{cs:List Value}(hn:Nat.blt d n=true)(hg:bV l g=true)(hv:ev l x=v)(hx:cellsOf v=some cs):dJ (R (λh=>aD P ds (⟨⟨some d,g,.box x t⟩,[]⟩::rest) (act n l D pm ro) h K) B w0 kl F)
 (∀b,R (λh=>aD P ds rest (act n ((d,.pointer (some ⟨b,0,none⟩))::l) D pm ro) h K) B w0 (pt b (.cells cs)::kl) F):=ZQ hn hg (by rw[hv];exact hx)
theorem aam{x y:Operand}{b o m:Nat}{cs vs c:List Value}{v:Value}(hg:bV l g=true)(hx:ev l x=.pointer (some ⟨b,o,none⟩))(hw:ev l y=v)(hy:cellsOf v=some vs)(hm:Nat.beq (gV vs) m=true)
 (hk:ay (pt b (.cells cs)) kl kl') (hv:jE cs o vs=some c):
 dJ (R (λh=>aD P ds (⟨⟨none,g,.store m x y⟩,[]⟩::rest) (act n l D pm ro) h K) B w0 kl F) (R (λh=>aD P ds rest (act n l D pm ro) h K) B w0 (pt b (.cells c)::kl') F):=ZY hg hx (by rw[hw];exact hy) hm hk hv
end
theorem aan{B:List Nat}{w0:Wd}{kl:List OA}{F:List aF}{K:KO}{ds:List Tmp}{rest:List bR}{n:Nat}{l:List (Nat×Value)}{D:List Deferred}{pm:Option FrameMode}{ro:Option Nat}{d:Nat}{g:Option (Tmp×Bool)}
 {fn:Fn} {first captured:List Operand} {a b:List Value} (hn:Nat.blt d n=true) (hg:bV l g=true) (h1:EvL (ev l) first a) (h2:EvL (ev l) captured b):
 dJ (R (λh=>aD P ds (⟨⟨some d,g,.Aj fn first captured⟩,[]⟩::rest) (act n l D pm ro) h K) B w0 kl F) (R (λh=>aD P ds rest (act n ((d,.func fn ⟨a⟩ ⟨b⟩)::l) D pm ro) h K) B w0 kl F):=fJ hn hg (Zp h1 h2)
theorem go{G G':Prop}(x:G')(r:dJ G G':=by
 repeat (first
  |((with_reducible apply dJ.trans);first
   |with_reducible exact Zq
   |with_reducible exact Zr
   |with_reducible exact Zt
   |with_reducible exact Zu
   |with_reducible exact Zv
   |with_reducible exact Zw
   |with_reducible exact Zx
   |with_reducible exact Zy
   |with_reducible exact Zz
   |with_reducible exact ZA
   |with_reducible exact ZB
   |with_reducible exact ZC
   |with_reducible exact ZE
   |with_reducible exact ZF
   |with_reducible exact ZG
   |with_reducible exact ZJ
   |with_reducible exact ZK
   |with_reducible exact ZL
   |((with_reducible apply ZH);exact rfl)
   |((with_reducible apply ZI);exact rfl)
   |((with_reducible apply ZM);(focus exact rfl))
   |((with_reducible apply ZN);(focus exact rfl))
   |((with_reducible apply ZO);(focus exact rfl);(focus exact rfl))
   |((with_reducible apply aah);(focus exact rfl);(focus exact rfl);(focus ((conv=>lhs;whnf);(first|done|fail)));(focus exact rfl);(focus (((repeat (first|with_reducible exact dL .. |with_reducible apply dI));first|done|fail);(first|done|fail)));(focus ((omega);(first|done|fail))))
   |((with_reducible apply aai);(focus exact rfl);(focus exact rfl);(focus ((conv=>lhs;whnf);(first|done|fail)));(focus exact rfl);(focus (((repeat (first|with_reducible exact dL .. |with_reducible apply dI));first|done|fail);(first|done|fail)));(focus ((omega);(first|done|fail))))
   |((with_reducible apply Qp);(focus exact rfl);(focus exact rfl);(focus ((conv=>lhs;whnf);(first|done|fail)));(focus exact rfl);(focus (((repeat (first|with_reducible exact dL .. |with_reducible apply dI));first|done|fail);(first|done|fail)));(focus ((omega);(first|done|fail)));(focus ((omega);(first|done|fail))))
   |((with_reducible apply Qq);(focus exact rfl);(focus exact rfl);(focus ((conv=>lhs;whnf);(first|done|fail)));(focus exact rfl);(focus (((repeat (first|with_reducible exact dL .. |with_reducible apply dI));first|done|fail);(first|done|fail)));(focus ((omega);(first|done|fail)));(focus ((omega);(first|done|fail))))
   |((with_reducible apply fJ);(focus exact rfl);(focus exact rfl);(focus ((first|((with_reducible apply F8);(focus ((conv=>lhs;whnf);(first|done|fail))))|((with_reducible apply F9);(focus ((conv=>lhs;whnf);(first|done|fail))))|((with_reducible apply Gd);(focus exact rfl))|((with_reducible apply Gg);(focus exact rfl);(focus exact rfl))|((with_reducible apply Gh);(focus exact rfl);(focus exact rfl))|((with_reducible apply Gi);(focus exact rfl);(focus exact rfl))|((with_reducible apply Gj);(focus exact rfl);(focus exact rfl))|((with_reducible apply Gl);(focus exact rfl);(focus exact rfl))|((with_reducible apply Gm);(focus exact rfl);(focus exact rfl))|((with_reducible apply Gc);(focus exact rfl))|((with_reducible apply Ga);(focus exact rfl);(focus ((conv=>lhs;whnf);(first|done|fail))))|((with_reducible apply Gb);(focus exact rfl);(focus ((conv=>lhs;whnf);(first|done|fail))))|((with_reducible apply Gp);(focus exact rfl);(focus ((conv=>lhs;whnf);(first|done|fail))))|((with_reducible apply Gq);(focus exact rfl))|((with_reducible apply Gr);(focus exact rfl);(focus ((conv=>lhs;whnf);(first|done|fail))))|((with_reducible apply Gs);(focus exact rfl);(focus ((conv=>lhs;whnf);(first|done|fail))))|((with_reducible apply Gt);(focus ((conv=>lhs;whnf);(first|done|fail))))|((with_reducible apply Gu);(focus exact rfl))|((with_reducible apply Gv);(focus exact rfl))|((with_reducible apply Gw);(focus exact rfl))|with_reducible exact Gf|((with_reducible apply Gx);(focus exact rfl);(focus exact rfl);(focus exact rfl))|((with_reducible apply GL);(focus exact rfl);(focus exact rfl);(focus ((omega);(first|done|fail))))|((with_reducible apply Dx);(focus exact rfl);(focus exact rfl);(focus ((omega);(first|done|fail)));(focus ((omega);(first|done|fail))))|((with_reducible apply Gy);(focus exact rfl);(focus exact rfl);(focus ((omega);(first|done|fail)));(focus ((omega);(first|done|fail))))|((with_reducible apply A9);(focus exact rfl);(focus exact rfl);(focus ((omega);(first|done|fail)));(focus ((omega);(first|done|fail))))|((with_reducible apply Gn);(focus exact rfl);(focus exact rfl);(focus ((omega);(first|done|fail)));(focus ((omega);(first|done|fail))))|((with_reducible apply GD);(focus exact rfl);(focus exact rfl);(focus ((first|assumption|kernel_rfl);(first|done|fail))))|((with_reducible apply GG);(focus exact rfl);(focus exact rfl);(focus ((first|assumption|kernel_rfl);(first|done|fail))))|((with_reducible apply GH);(focus exact rfl);(focus exact rfl))|((with_reducible apply GI);(focus exact rfl);(focus exact rfl))|((with_reducible apply GJ);(focus exact rfl);(focus exact rfl);(focus ((omega);(first|done|fail)));(focus ((omega);(first|done|fail)))));(first|done|fail))))
   |((with_reducible apply aan);(focus exact rfl);(focus exact rfl);(focus (repeat (first|with_reducible exact EvL.nil|((with_reducible apply EvL.cons);(conv=>lhs;whnf)))));(focus (repeat (first|with_reducible exact EvL.nil|((with_reducible apply EvL.cons);(conv=>lhs;whnf))))))
   |((with_reducible apply aaj);(focus exact rfl);(focus exact rfl);(focus (repeat (first|with_reducible exact Fill.nil|((with_reducible apply Fill.cons);(conv=>lhs;whnf);(conv=>lhs;whnf);(focus exact rfl);(conv=>lhs;whnf))))))
   |((with_reducible apply aak);(focus exact rfl);(focus exact rfl);(focus (repeat (first|with_reducible exact Fill.nil|((with_reducible apply Fill.cons);(conv=>lhs;whnf);(conv=>lhs;whnf);(focus exact rfl);(conv=>lhs;whnf))))))
   |((with_reducible apply aal);(focus exact rfl);(focus exact rfl);(focus ((conv=>lhs;whnf);(first|done|fail)));(focus ((conv=>lhs;whnf);(first|done|fail))))
   |((with_reducible apply ZP);(focus exact rfl);(focus exact rfl))
   |((with_reducible apply ZU);(focus exact rfl);(focus exact rfl);(focus exact rfl);(focus ((repeat (first|with_reducible exact ay.here|with_reducible apply ay.there|with_reducible apply ay.app));(first|done|fail)));(focus ((conv=>lhs;whnf);(first|done|fail))))
   |((with_reducible apply ZV);(focus exact rfl);(focus exact rfl);(focus exact rfl);(focus ((repeat (first|with_reducible exact ay.here|with_reducible apply ay.there|with_reducible apply ay.app));(first|done|fail)));(focus ((conv=>lhs;whnf);(first|done|fail))))
   |((with_reducible apply ZW);(focus exact rfl);(focus exact rfl);(focus exact rfl);(focus (((repeat (first|with_reducible exact dL .. |with_reducible apply dI));first|done|fail);(first|done|fail)));(focus ((conv=>lhs;whnf);(first|done|fail))))
   |((with_reducible apply Qn);(focus exact rfl);(focus exact rfl);(focus exact rfl);(focus (((repeat (first|with_reducible exact dL .. |with_reducible apply dI));first|done|fail);(first|done|fail)));(focus ((conv=>lhs;whnf);(first|done|fail))))
   |((with_reducible apply ZX);(focus exact rfl);(focus exact rfl);(focus exact rfl);(focus (((repeat (first|with_reducible exact dL .. |with_reducible apply dI));first|done|fail);(first|done|fail)));(focus ((conv=>lhs;whnf);(first|done|fail))))
   |((with_reducible apply KW);(focus exact rfl);(focus exact rfl);(focus exact rfl);(focus (((repeat (first|with_reducible exact dL .. |with_reducible apply dI));first|done|fail);(first|done|fail)));(focus ((conv=>lhs;whnf);(first|done|fail))))
   |((with_reducible apply aam);(focus exact rfl);(focus exact rfl);(focus ((conv=>lhs;whnf);(first|done|fail)));(focus ((conv=>lhs;whnf);(first|done|fail)));(focus exact rfl);(focus ((repeat (first|with_reducible exact ay.here|with_reducible apply ay.there|with_reducible apply ay.app));(first|done|fail)));(focus ((conv=>lhs;whnf);(first|done|fail))))
   |((with_reducible apply Z5);(focus exact rfl);(focus exact rfl);(focus ((conv=>lhs;whnf);(first|done|fail)));(focus (((repeat (first|with_reducible exact dL .. |with_reducible apply dI));first|done|fail);(first|done|fail))))
   |((with_reducible apply Z6);(focus exact rfl);(focus exact rfl);(focus ((conv=>lhs;whnf);(first|done|fail)));(focus ((repeat (first|with_reducible exact ay.here|with_reducible apply ay.there|with_reducible apply ay.app));(first|done|fail))))
   |((with_reducible apply aad (re:=_::_));(focus exact rfl);(focus exact rfl);(focus ((first|((with_reducible apply F8);(focus ((conv=>lhs;whnf);(first|done|fail))))|((with_reducible apply F9);(focus ((conv=>lhs;whnf);(first|done|fail))))|((with_reducible apply Gd);(focus exact rfl))|((with_reducible apply Gg);(focus exact rfl);(focus exact rfl))|((with_reducible apply Gh);(focus exact rfl);(focus exact rfl))|((with_reducible apply Gi);(focus exact rfl);(focus exact rfl))|((with_reducible apply Gj);(focus exact rfl);(focus exact rfl))|((with_reducible apply Gl);(focus exact rfl);(focus exact rfl))|((with_reducible apply Gm);(focus exact rfl);(focus exact rfl))|((with_reducible apply Gc);(focus exact rfl))|((with_reducible apply Ga);(focus exact rfl);(focus ((conv=>lhs;whnf);(first|done|fail))))|((with_reducible apply Gb);(focus exact rfl);(focus ((conv=>lhs;whnf);(first|done|fail))))|((with_reducible apply Gp);(focus exact rfl);(focus ((conv=>lhs;whnf);(first|done|fail))))|((with_reducible apply Gq);(focus exact rfl))|((with_reducible apply Gr);(focus exact rfl);(focus ((conv=>lhs;whnf);(first|done|fail))))|((with_reducible apply Gs);(focus exact rfl);(focus ((conv=>lhs;whnf);(first|done|fail))))|((with_reducible apply Gt);(focus ((conv=>lhs;whnf);(first|done|fail))))|((with_reducible apply Gu);(focus exact rfl))|((with_reducible apply Gv);(focus exact rfl))|((with_reducible apply Gw);(focus exact rfl))|with_reducible exact Gf|((with_reducible apply Gx);(focus exact rfl);(focus exact rfl);(focus exact rfl))|((with_reducible apply GL);(focus exact rfl);(focus exact rfl);(focus ((omega);(first|done|fail))))|((with_reducible apply Dx);(focus exact rfl);(focus exact rfl);(focus ((omega);(first|done|fail)));(focus ((omega);(first|done|fail))))|((with_reducible apply Gy);(focus exact rfl);(focus exact rfl);(focus ((omega);(first|done|fail)));(focus ((omega);(first|done|fail))))|((with_reducible apply A9);(focus exact rfl);(focus exact rfl);(focus ((omega);(first|done|fail)));(focus ((omega);(first|done|fail))))|((with_reducible apply Gn);(focus exact rfl);(focus exact rfl);(focus ((omega);(first|done|fail)));(focus ((omega);(first|done|fail))))|((with_reducible apply GD);(focus exact rfl);(focus exact rfl);(focus ((first|assumption|kernel_rfl);(first|done|fail))))|((with_reducible apply GG);(focus exact rfl);(focus exact rfl);(focus ((first|assumption|kernel_rfl);(first|done|fail))))|((with_reducible apply GH);(focus exact rfl);(focus exact rfl))|((with_reducible apply GI);(focus exact rfl);(focus exact rfl))|((with_reducible apply GJ);(focus exact rfl);(focus exact rfl);(focus ((omega);(first|done|fail)));(focus ((omega);(first|done|fail)))));(first|done|fail)));(focus ((repeat (first|exact Bc|refine Bd rfl (by repeat (first|with_reducible exact ay.here|with_reducible apply ay.there|with_reducible apply ay.app)) (by first|exact rfl|(conv=>lhs;whnf)) rfl ?_|refine DC rfl (by(repeat (first|with_reducible exact dL .. |with_reducible apply dI));first|done|fail) (by first|exact rfl|(conv=>lhs;whnf)) rfl ?_|refine DD rfl (by(repeat (first|with_reducible exact dL .. |with_reducible apply dI));first|done|fail) (by first|exact rfl|(conv=>lhs;whnf)) rfl ?_|refine DF rfl (by repeat (first|with_reducible exact ay.here|with_reducible apply ay.there|with_reducible apply ay.app)) (by first|exact rfl|(conv=>lhs;whnf)) rfl ?_|refine DI rfl (by(repeat (first|with_reducible exact dL .. |with_reducible apply dI));first|done|fail) (by first|exact rfl|(conv=>lhs;whnf)) rfl ?_|refine DJ rfl (by(repeat (first|with_reducible exact dL .. |with_reducible apply dI));first|done|fail) (by first|exact rfl|(conv=>lhs;whnf)) rfl ?_));(first|done|fail))))
   |((with_reducible apply aac (re:=_::_));(focus exact rfl);(focus exact rfl);(focus ((conv=>lhs;whnf);(first|done|fail)));(focus ((conv=>lhs;whnf);(first|done|fail)));(focus exact rfl);(focus ((repeat (first|with_reducible exact ay.here|with_reducible apply ay.there|with_reducible apply ay.app));(first|done|fail)));(focus ((conv=>lhs;whnf);(first|done|fail)));(focus ((repeat (first|exact Bc|refine Bd rfl (by repeat (first|with_reducible exact ay.here|with_reducible apply ay.there|with_reducible apply ay.app)) (by first|exact rfl|(conv=>lhs;whnf)) rfl ?_|refine DC rfl (by(repeat (first|with_reducible exact dL .. |with_reducible apply dI));first|done|fail) (by first|exact rfl|(conv=>lhs;whnf)) rfl ?_|refine DD rfl (by(repeat (first|with_reducible exact dL .. |with_reducible apply dI));first|done|fail) (by first|exact rfl|(conv=>lhs;whnf)) rfl ?_|refine DF rfl (by repeat (first|with_reducible exact ay.here|with_reducible apply ay.there|with_reducible apply ay.app)) (by first|exact rfl|(conv=>lhs;whnf)) rfl ?_|refine DI rfl (by(repeat (first|with_reducible exact dL .. |with_reducible apply dI));first|done|fail) (by first|exact rfl|(conv=>lhs;whnf)) rfl ?_|refine DJ rfl (by(repeat (first|with_reducible exact dL .. |with_reducible apply dI));first|done|fail) (by first|exact rfl|(conv=>lhs;whnf)) rfl ?_));(first|done|fail))))
   |fail)
  |((with_reducible apply dJ.all);intro _)
  |with_reducible apply dJ.imp)
 with_reducible exact dJ.refl _):G:=r.h x
theorem oD{B:List Nat}{w0:Wd}{kl:List OA}{F:List aF}{K:KO}{c:di}{a:aW}(r:R (λh=>EV P c a h (xu P (.loop c) K)) B w0 kl F):R (λh=>EV P (.loop c) a h K) B w0 kl F:=λw s=>
 .loop _ (r w s) (λ_ _ hm=>hm) (λo a' h' hm hn=>by
  cases o with
  |normal=>exact absurd rfl hn
  |_=>exact hm)
theorem jM.sub{α:Type}{F0:List α}:∀{F:List α},jM F0 F->Sub F0 F:=λ{F} h=>by
 have:∀k:List α,(∀x∈k,x∈F)->Sub k F:=by
  intro k;induction k with
  |nil=>intro _;exact .nil
  |cons a k ih=>intro hk;exact .cons (hk a (dL ..)) (ih λx hx=>hk x (dI _ hx))
 exact this F0 h.mem
inductive bB{α:Type}:List α->List α->List α->Prop
 |nil {l:List α}:bB [] l l
 |cons {a:α} {k l m:List α} (h:bB k l m):bB (a::k) l (a::m)
 |self {k:List α}:bB k [] k
 |app {k l:List α}:bB k l (k++l)
theorem bB.eq{α:Type}:∀{k l m:List α},bB k l m->k++l=m
 |_,_,_,.nil=>rfl
 |_,_,_,.self=>gK _
 |_,_,_,.app=>rfl
 |_,_,_,.cons h=>by rw[dF,h.eq]
section
variable {B:List Nat} {w0:Wd} {kl kl' bn:List OA} {F:List aF} {K:KO} {ds:List Tmp} {rest:List bR} {n:Nat} {l:List (Nat×Value)} {D:List Deferred} {pm:Option FrameMode} {ro:Option Nat} {d:Nat} {g:Option (Tmp×Bool)}
theorem ax{Y:Type}{f:Operand}{xs:List Operand}{re:List gW}{fn:Fn}{first captured vs as:List Value}{k1:List OA}{F1:List aF}{val:Y->Value}{k1':Y->List OA}{fs:Y->List aF}{pr:Y->Prop}{dK:Y->List OA}{F2:Y->List aF}
 (hc:bz P fn as captured k1 F1 val k1' fs pr) (hn:Nat.blt d n=true:=by rfl) (hg:bV l g=true:=by rfl) (hf:ev l f=.func fn ⟨first⟩ ⟨captured⟩:=by rfl) (hx:EvL (ev l) xs vs:=by repeat (first|with_reducible exact EvL.nil|((with_reducible apply EvL.cons);(conv=>lhs;whnf)))) (ha:first++vs=as:=by rfl)
 (hk:aH k1 kl bn:=by exact lN) (hF:Sub F1 F:=by exact kZ)
 (hak:∀y,bB (k1' y) bn (dK y):=by intro y;repeat (first|exact bB.nil|apply bB.cons|exact bB.self|exact bB.app)) (xE:∀y,bB (fs y) F (F2 y):=by intro y;repeat (first|exact bB.nil|apply bB.cons|exact bB.self|exact bB.app))
 (hs:∀y,pr y->Same P re (ev ((d,val y)::l)) ((d,val y)::l) B w0 (dK y) (F2 y):=by intro _ _;repeat (first|exact Bc|refine Bd rfl (by repeat (first|with_reducible exact ay.here|with_reducible apply ay.there|with_reducible apply ay.app)) (by first|exact rfl|(conv=>lhs;whnf)) rfl ?_|refine DC rfl (by(repeat (first|with_reducible exact dL .. |with_reducible apply dI));first|done|fail) (by first|exact rfl|(conv=>lhs;whnf)) rfl ?_|refine DD rfl (by(repeat (first|with_reducible exact dL .. |with_reducible apply dI));first|done|fail) (by first|exact rfl|(conv=>lhs;whnf)) rfl ?_|refine DF rfl (by repeat (first|with_reducible exact ay.here|with_reducible apply ay.there|with_reducible apply ay.app)) (by first|exact rfl|(conv=>lhs;whnf)) rfl ?_|refine DI rfl (by(repeat (first|with_reducible exact dL .. |with_reducible apply dI));first|done|fail) (by first|exact rfl|(conv=>lhs;whnf)) rfl ?_|refine DJ rfl (by(repeat (first|with_reducible exact dL .. |with_reducible apply dI));first|done|fail) (by first|exact rfl|(conv=>lhs;whnf)) rfl ?_|refine Qu (by first|((with_reducible apply F8);(focus ((conv=>lhs;whnf);(first|done|fail))))|((with_reducible apply F9);(focus ((conv=>lhs;whnf);(first|done|fail))))|((with_reducible apply Gd);(focus exact rfl))|((with_reducible apply Gg);(focus exact rfl);(focus exact rfl))|((with_reducible apply Gh);(focus exact rfl);(focus exact rfl))|((with_reducible apply Gi);(focus exact rfl);(focus exact rfl))|((with_reducible apply Gj);(focus exact rfl);(focus exact rfl))|((with_reducible apply Gl);(focus exact rfl);(focus exact rfl))|((with_reducible apply Gm);(focus exact rfl);(focus exact rfl))|((with_reducible apply Gc);(focus exact rfl))|((with_reducible apply Ga);(focus exact rfl);(focus ((conv=>lhs;whnf);(first|done|fail))))|((with_reducible apply Gb);(focus exact rfl);(focus ((conv=>lhs;whnf);(first|done|fail))))|((with_reducible apply Gp);(focus exact rfl);(focus ((conv=>lhs;whnf);(first|done|fail))))|((with_reducible apply Gq);(focus exact rfl))|((with_reducible apply Gr);(focus exact rfl);(focus ((conv=>lhs;whnf);(first|done|fail))))|((with_reducible apply Gs);(focus exact rfl);(focus ((conv=>lhs;whnf);(first|done|fail))))|((with_reducible apply Gt);(focus ((conv=>lhs;whnf);(first|done|fail))))|((with_reducible apply Gu);(focus exact rfl))|((with_reducible apply Gv);(focus exact rfl))|((with_reducible apply Gw);(focus exact rfl))|with_reducible exact Gf|((with_reducible apply Gx);(focus exact rfl);(focus exact rfl);(focus exact rfl))|((with_reducible apply GL);(focus exact rfl);(focus exact rfl);(focus ((omega);(first|done|fail))))|((with_reducible apply Dx);(focus exact rfl);(focus exact rfl);(focus ((omega);(first|done|fail)));(focus ((omega);(first|done|fail))))|((with_reducible apply Gy);(focus exact rfl);(focus exact rfl);(focus ((omega);(first|done|fail)));(focus ((omega);(first|done|fail))))|((with_reducible apply A9);(focus exact rfl);(focus exact rfl);(focus ((omega);(first|done|fail)));(focus ((omega);(first|done|fail))))|((with_reducible apply Gn);(focus exact rfl);(focus exact rfl);(focus ((omega);(first|done|fail)));(focus ((omega);(first|done|fail))))|((with_reducible apply GD);(focus exact rfl);(focus exact rfl);(focus ((first|assumption|kernel_rfl);(first|done|fail))))|((with_reducible apply GG);(focus exact rfl);(focus exact rfl);(focus ((first|assumption|kernel_rfl);(first|done|fail))))|((with_reducible apply GH);(focus exact rfl);(focus exact rfl))|((with_reducible apply GI);(focus exact rfl);(focus exact rfl))|((with_reducible apply GJ);(focus exact rfl);(focus exact rfl);(focus ((omega);(first|done|fail)));(focus ((omega);(first|done|fail))))) rfl ?_))
 (next:∀y,pr y->R (λh=>aD P ds rest (act n ((d,val y)::l) D pm ro) h K) B w0 (dK y) (F2 y)):
 R (λh=>aD P ds (⟨⟨some d,g,.call f xs⟩,re⟩::rest) (act n l D pm ro) h K) B w0 kl F:=
 aae hc hn hg hf hx ha hk hF (λy hy=>by rw[(hak y).eq,(xE y).eq];exact hs y hy) (λy hy=>by rw[(hak y).eq,(xE y).eq];exact next y hy)
abbrev dG(P:Program)(f:FuncId)(args:List Value)(F:List aF)(v:Value):Prop:=bz P (.func f) args [] [] F (λ_:Unit=>v) (λ_=>[]) (λ_=>[]) (λ_=>True)
theorem aK{Y:Type}{f:FuncId}{args cap:List Value}{kl:List OA}{F:List aF}{val:Y->Value}{kl':Y->List OA}{fs:Y->List aF}{pr:Y->Prop}{c:di}{m:Nat}{l0:List (Nat×Value)}(cf:gL)(hF:(nu P o9 pg).F f=some cf)
 (hb:∀B w0,R (λh=>EV P c (act m l0 [] none none) h (AV cf (Left B w0 val kl' fs pr))) B w0 kl F)
 (h1:cf.body=c:=by conv=>lhs;(reduce;(try simp only[Int.reduceOfNat,Int.reduceNegSucc]))) (h2:qc cf.ntmps (gV (args++cap))=m:=by conv=>lhs;whnf) (h3:oC 0 (args++cap) []=l0:=by dsimp only[oC,Nat.reduceAdd,List.append_nil,List.cons_append,List.nil_append]):bz P (.func f) args cap kl F val kl' fs pr:=
 aaa cf hF (by rw[h1,h2,h3];exact hb)
theorem aZ{α:Type}(E:Enc α){x i:Operand}{v:Value}{xs:List α}{size:Nat}{k:Nat}{kk:IntKind}{F2:α->E.Y->List aF}(hn:Nat.blt d n=true:=by rfl)(hg:bV l g=true:=by rfl)(hx:ev l x=v:=by conv=>lhs;whnf)(hi:ev l i=.int kk (k:Int):=by rfl)
 (hf:ah E v xs∈F:=by exact vK) (hs:E.n=size:=by rfl) (h1:k<xs.length:=by omega)
 (ha:∀z y,bB (E.fs z y) F (F2 z y):=by intro z y;repeat (first|exact bB.nil|apply bB.cons|exact bB.self|exact bB.app))
 (next:∀b o z y,xs[k]? =some z->R (λh=>aD P ds rest (act n ((d,.pointer (some ⟨b,o,none⟩))::l) D pm ro) h K) B w0 kl (eB b o (E.pat z y)::F2 z y)):
 R (λh=>aD P ds (⟨⟨some d,g,.mJ size x i⟩,[]⟩::rest) (act n l D pm ro) h K) B w0 kl F:=
 (KY hn hg hx hi hf hs (by omega) (by omega)).h λb o z y hz=>by rw[(ha z y).eq];exact next b o z y (by simpa using hz)
theorem ae{Y:Type}{o:Out}{cf:gL}{vs:List Value}{val:Y->Value}{k1:Y->List OA}{fs:Y->List aF}{pr:Y->Prop}(y:Y)
 (hr:RS l kl cf.results vs:=by exact zh) (hv:qm vs=val y:=by rfl) (hp:pr y)
 (hk:aH (k1 y) kl bn:=by exact lN) (hF:Sub (fs y) F:=by exact kZ)
 (ho:o=.normal\/o=.ret:=by first|exact .inl rfl|exact .inr rfl):R (λh=>AV cf (Left B w0 val k1 fs pr) o (act n l [] none ro) h) B w0 kl F:=
 Qv y hr hv hp hk hF ho
theorem bC{A:OA}{fs F2:List aF}{Q:IH->Prop}(hA:qZ A fs)(hk:ay A kl kl':=by exact gH)(ha:bB fs F F2:=by repeat (first|exact bB.nil|apply bB.cons|exact bB.self|exact bB.app))(h:R Q B w0 kl' F2):R Q B w0 kl F:=
 Z7 hA hk (by rw[ha.eq];exact h)
theorem bi{X:Type}{c:di}{l0:List (Nat×Value)}{L2:X->List (Nat×Value)}{xG:X->List OA}{xH:X->List aF}(m:X->Nat)(L:X->List (Nat×Value))(KL:X->List OA)(FF:X->List aF)(inv:X->Prop)(x0:X)(hi:inv x0)
 (h0:nE l (L x0) l0:=by repeat (first|exact nE.nil|(apply nE.drop;(focus exact rfl))|(apply nE.keep;(focus exact rfl)))) (hl:sub (L x0++l0) l:=by repeat (first|exact trivial|refine⟨rfl,?_⟩))
 (hk:aH (KL x0) kl bn:=by exact lN) (hF:Sub (FF x0) F:=by exact kZ)
 (hak:∀x,bB (KL x) bn (xG x):=by intro y;repeat (first|exact bB.nil|apply bB.cons|exact bB.self|exact bB.app)) (xE:∀x,bB (FF x) F (xH x):=by intro y;repeat (first|exact bB.nil|apply bB.cons|exact bB.self|exact bB.app))
 (hal:∀x,bB (L x) l0 (L2 x):=by intro y;repeat (first|exact bB.nil|apply bB.cons|exact bB.self|exact bB.app))
 (body:∀x,inv x->R (λh=>EV P c (act n (L2 x) D pm ro) h (sK (LI n D pm ro B w0 m L KL FF inv l0 bn F) (m x) K)) B w0 (xG x) (xH x)):
 R (λh=>EV P (.loop c) (act n l D pm ro) h K) B w0 kl F:=
 aaf m L KL FF inv x0 hi l0 hl hk hF λx hx=>by rw[(hak x).eq,(xE x).eq,(hal x).eq];exact body x hx
theorem aQ{X:Type}{m:X->Nat}{L:X->List (Nat×Value)}{KL:X->List OA}{FF:X->List aF}{inv:X->Prop}{l0:List (Nat×Value)}{xI dK:List OA}{F0:List aF}{m0:Nat}(x:X)(hm:m x<m0)(hi:inv x)
 (hl:sub (L x++l0) l:=by repeat (first|exact trivial|refine⟨rfl,?_⟩)) (ha:bB (KL x) bn xI:=by repeat (first|exact bB.nil|apply bB.cons|exact bB.self|exact bB.app))
 (hk:aH xI kl dK:=by exact lN) (hF:Sub (FF x) F:=by exact kZ)
 (vJ:jM F0 F:=by repeat (first|exact jM.here|apply jM.cons|apply jM.app)):
 R (λh=>sK (LI n D pm ro B w0 m L KL FF inv l0 bn F0) m0 K .normal (act n l D pm ro) h) B w0 kl F:=
 aag x hm hi hl (by rw[ha.eq];exact hk) hF vJ
end
end Go.Ideal
namespace Go.Ideal
noncomputable def GM(L:Lay):Wd:=⟨jS L,λi=>i<(jS L).next,λ_ h=>h⟩
end Go.Ideal
namespace Go.Ideal
open Go.ChangeShapes Go.WideShapes Go.ChangeAt Go.RowKit
variable {P:Program}
def Be{α:Type}(P:Program)(t:TypeId)(E:Enc α):Prop:=∀(w:Wd) (H:Type) (d:DataW H) (cs:List Value),(∀i,i<w.h.next->w.z i)->gY P w.h t cs d->∃a y,cs=E.pat a y/\∀f∈E.fs a y,f.p w
theorem K4{α:Type}{p:Nat->α->Prop}:∀n,(∀k,k<n->∃a,p k a)->∃l:List α,l.length=n/\∀(k:Nat) a,l[k]? =some a->p k a
 |0,_=>⟨[],rfl,λk a h=>by cases h⟩
 |n+1,h=>by
  obtain⟨l,h1,h2⟩:=K4 n (λk hk=>h k (by omega));obtain⟨a,ha⟩:=h n (by omega);refine⟨l++[a],by simp[h1],λk b hb=>?_⟩;by_cases hk:k<l.length
  ·rw[nN hk]at hb;exact h2 k b hb
  ·rw[qG (by omega)]at hb;have hk0:k=n:=by have:=(bN.1 hb).1;simp at this;omega
   subst hk0;rw[h1]at hb;simp at hb;subst hb;exact ha
def Qw{α β:Type}(E1:Enc α)(E2:Enc β):Enc (α×β):=⟨E1.n+E2.n,E1.Y×E2.Y,λa y=>E1.pat a.1 y.1++E2.pat a.2 y.2,λa y=>E1.fs a.1 y.1++E2.fs a.2 y.2,λa y=>by rw[gD,E1.len,E2.len]⟩
def Qx:Enc Unit:=⟨0,Unit,λ_ _=>[],λ_ _=>[],λ_ _=>rfl⟩
inductive Bf(P:Program):{α:Type}->List Field->Enc α->Prop
 |nil:Bf P [] Qx
 |cons {α β:Type} {f:Field} {fs:List Field} {E1:Enc α} {E2:Enc β} (h:Be P f.type E1) (hn:P.cellsOf f.type=E1.n) (t:Bf P fs E2):Bf P (f::fs) (Qw E1 E2)
theorem Bf.GN{w:Wd}{H:Type}(hz:∀i,i<w.h.next->w.z i):∀{α:Type} {fs:List Field} {E:Enc α},Bf P fs E->∀(o0:Nat) (cs:List Value) (ds:List (DataW H)),cs.length=(fs.map λf=>P.cellsOf f.type).sum->ds.length=fs.length->
 fs.map (·.offset)=sums o0 (fs.map λf=>P.cellsOf f.type)->(∀(j:Nat) f d,fs[j]? =some f->ds[j]? =some d->gY P w.h f.type ((cs.drop (f.offset - o0)).take (P.cellsOf f.type)) d)->∃a y,cs=E.pat a y/\∀f∈E.fs a y,f.p w
 |_,_,_,.nil,o0,cs,ds,h1,h2,h3,h4=>⟨(),(),jI.1 (by simpa using h1),λf hf=>by cases hf⟩
 |_,_,_,.cons (f:=f) (fs:=fs) (E1:=E1) (E2:=E2) h hn t,o0,cs,ds,h1,h2,h3,h4=>by
  match ds,h2 with
  |d::ds,h2=>
   simp only[gN,List.sum_cons,sums,Ac]at h1 h3;obtain⟨ho,h3⟩:=h3;have r0:=h4 0 f d rfl rfl;rw[ho,Ae,yH]at r0;obtain⟨a,y,q1,q2⟩:=h w H d _ hz r0;obtain⟨b,z,u1,u2⟩:=Bf.GN hz t (o0+P.cellsOf f.type) (cs.drop (P.cellsOf f.type)) ds (by rw[rR];omega) (by simpa using h2) h3 (λj g e hg he=>by
    have:=h4 (j+1) g e hg he;rw[List.drop_drop];have hle:o0+P.cellsOf f.type<=g.offset:=by
     have hj:(fs.map (·.offset))[j]? =some g.offset:=by rw[fo,hg];rfl
     rw[h3]at hj;have hs:(fs.map λf=>P.cellsOf f.type)[j]? =some (P.cellsOf g.type):=by rw[fo,hg];rfl
     exact(xz _ ([]:List Value) (o0+P.cellsOf f.type) j _ _ hj hs).2
    rw[show P.cellsOf f.type+(g.offset - (o0+P.cellsOf f.type))=g.offset - o0 by omega];exact this)
   refine⟨(a,b),(y,z),?_,?_⟩
   ·show cs=E1.pat a y++E2.pat b z;rw[<- q1,<- u1,rT]
   ·intro g hg;rcases dX.1 hg with hg|hg
    ·exact q2 g hg
    ·exact u2 g hg
theorem Be.conv{α β:Type}{t:TypeId}{E:Enc α}{E':Enc β}(h:Be P t E)(hc:∀a y,∃b z,E.pat a y=E'.pat b z/\E.fs a y=E'.fs b z):Be P t E':=λw H d cs hz r=>by
 obtain⟨a,y,q1,q2⟩:=h w H d cs hz r;obtain⟨b,z,e1,e2⟩:=hc a y;exact⟨b,z,by rw[q1,e1],λf hf=>q2 f (by rw[e2];exact hf)⟩
section
variable {H:Type} {enc:TypeId×Value->H} {W:World} {K:TypeId->Prop}
def xJ(P:Program)(w:Wd)(t:TypeId)(v:Value){H:Type}(d:DataW H):Prop:=∃cs,gY P w.h t cs d/\((jK P t=true/\v=.agg ⟨cs⟩)\/(jK P t=false/\cs=[v]))
theorem xJ.agg{α:Type}{w:Wd}{t:TypeId}{v:Value}{d:DataW H}{E:Enc α}(h:xJ P w t v d)(hz:∀i,i<w.h.next->w.z i)(ha:jK P t=true)(hr:Be P t E):∃a y,v=.agg ⟨E.pat a y⟩/\∀f∈E.fs a y,f.p w:=by
 obtain⟨cs,r,⟨_,e⟩|⟨e,_⟩⟩:=h
 ·obtain⟨a,y,rfl,q⟩:=hr w H d cs hz r;exact⟨a,y,e,q⟩
 ·rw[ha]at e;cases e
theorem xJ.one{α:Type}{w:Wd}{t:TypeId}{v:Value}{d:DataW H}{E:Enc α}(h:xJ P w t v d)(hz:∀i,i<w.h.next->w.z i)(ha:jK P t=false)(hr:Be P t E):∃a y,E.pat a y=[v]/\∀f∈E.fs a y,f.p w:=by
 obtain⟨cs,r,⟨e,_⟩|⟨_,e⟩⟩:=h
 ·rw[ha]at e;cases e
 ·obtain⟨a,y,q0,q⟩:=hr w H d cs hz r;exact⟨a,y,by rw[<- q0,e],q⟩
theorem aao{L:Lay}{t:TypeId}{v v0:Value}{d:DataW H}{w:Wd}(hw:w.h=jS L)(r:xA P (jS L) t v d)(hv:VR (jB L) v v0)(hok:Value.okWide P W .any 0 t v0):xJ P w t v d:=by
 obtain⟨cs,r1,h2,h3⟩:=r;refine⟨cs,by rw[hw];exact r1,?_⟩;cases ha:jK P t with
 |true=>
  left;refine⟨rfl,?_⟩;rcases h3 with e|e
  ·subst e;have hagg:∃c,v0=.agg c:=by
    unfold jK at ha;unfold Value.okWide at hok;split at ha
    ·rename_i fs hu;rw[hu]at hok;obtain⟨c,e,_⟩:=hok;exact⟨c,e⟩
    ·rename_i n e hu;rw[hu]at hok;obtain⟨c,e,_⟩:=hok;exact⟨c,e⟩
    ·cases ha
   obtain⟨c,rfl⟩:=hagg
   exfalso
   cases hv<;>simp[cellV]at h2
  ·exact e
 |false=>
  right;refine⟨rfl,?_⟩;rcases h3 with e|e
  ·exact e
  ·subst e
   exfalso
   cases hv with
   |agg hc hl=>
    cases hu:P.underlying t with
    |none=>simp[Value.okWide,Cell.okWide,Cell.ok,hu]at hok
    |some d=>cases d<;>simp[Value.okWide,Cell.okWide,Cell.ok,jK,hu]at hok ha
theorem aap{ts:List TypeId}{vs' vs:List Value}{L:Lay}(hv:aU (jB L) vs' vs):∀(j:Nat) v',vs'[j]? =some v'->∃v,vs[j]? =some v/\VR (jB L) v' v:=by
 intro j;induction j generalizing vs' vs with
 |zero=>
  intro v' h;cases hv with
  |nil=>cases h
  |cons h1 h2=>cases h;exact⟨_,rfl,h1⟩
 |succ j ih=>
  intro v' h;cases hv with
  |nil=>cases h
  |cons h1 h2=>exact ih h2 v' h
theorem Qy{a:Nat}{b:Nat->Bool}{c:Bool}:∀{ts:List TypeId} {vs:List Value} {ds:List (DataW H)} {ps:List MemPlace},DataW.TrodAll enc P W a b c ts vs ds ps->vs.length=ts.length/\ds.length=ts.length
 |[],[],[],_,_=>⟨rfl,rfl⟩
 |_::_,_::_,_::_,_,⟨_,_,_,h,_⟩=>by
  have:=Qy h;simp[this.1,this.2]
theorem Qz{α:Type}{l:List α}(h:l.length=2):∃a b,l=[a,b]:=by
 match l,h with
 |[a,b],_=>exact⟨a,b,rfl⟩
end
