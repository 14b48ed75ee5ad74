/-
  The ideal machine, 53: the road through what needs no thought; lists put in order.
-/
import Derived.Test.YtfakljdleblkoaaGreatIdealJM
import Derived.Test.YtfakljdleblkoaaGreatIdealIM
set_option linter.all false
namespace Go.Ideal
theorem l5{p:Prop}(h:p:=by repeat (first|exact Sub.nil|(apply Sub.cons;(focus ((repeat (first|with_reducible exact bR .. |with_reducible apply bU));first|done|fail)))|exact ko.sub (by repeat (first|with_reducible exact ko.here|with_reducible apply ko.cons|with_reducible apply ko.app)))):p:=h
theorem l6{p:Prop}(h:p:=by repeat (first|exact aO.nil|(apply aO.cons;(focus (repeat (first|with_reducible exact az.here|with_reducible apply az.there|with_reducible apply az.app))))|with_reducible exact aO.all _|with_reducible exact aO.self _ _|with_reducible apply aO.there)):p:=h
theorem fB{p:Prop}(h:p:=by repeat (first|with_reducible exact az.here|with_reducible apply az.there|with_reducible apply az.app)):p:=h
theorem Be{p:Prop}(h:p:=by repeat (first|exact RS.nil|(apply RS.tmp;(conv=>lhs;whnf))|(apply RS.cell1;(focus exact rfl);(focus (repeat (first|with_reducible exact az.here|with_reducible apply az.there|with_reducible apply az.app)));(conv=>lhs;whnf))|(apply RS.nN;(focus exact rfl);(focus (repeat (first|with_reducible exact az.here|with_reducible apply az.there|with_reducible apply az.app)));(conv=>lhs;whnf)))):p:=h
theorem tX{p:Prop}(h:p:=by(repeat (first|with_reducible exact bR .. |with_reducible apply bU));first|done|fail):p:=h
variable {P:Program}
section
variable {B:List Nat} {w0:Wd} {kl:List OA} {F:List aD} {K:KO} {ds:List Tmp} {rest:List bP} {n:Nat} {l:List (Nat×Value)} {D:List Deferred} {pm:Option FrameMode} {ro:Option Nat} {d:Nat} {g:Option (Tmp×Bool)}
theorem aef{x i:Operand}{v:Value}{xs:List Int}{k:Nat}{kk:IntKind}(hn:Nat.blt d n=true)(hg:bM l g=true)(hx:ev l x=v)(hi:ev l i=.int kk (k:Int))(hf:ah ae v xs∈F)(h1:k<xs.length):
 dP (R (λh=>aI P ds (⟨⟨some d,g,.mX 1 x i⟩,[]⟩::rest) (act n l D pm ro) h K) B w0 kl F)
  (∀b o z,xs[k]? =some z->R (λh=>aI P ds rest (act n ((d,.pointer (some ⟨b,o,none⟩))::l) D pm ro) h K) B w0 kl (bz b o [.int .i64 z]::F)):=
 ⟨λr=>(Uu hn hg hx hi hf (by omega) (by omega)).h λb o z hz=>r b o z (by simpa using hz)⟩
theorem aeg{x i:Operand}{v:Value}{xs:List Bool}{k:Nat}{kk:IntKind}(hn:Nat.blt d n=true)(hg:bM l g=true)(hx:ev l x=v)(hi:ev l i=.int kk (k:Int))(hf:ah oH v xs∈F)(h1:k<xs.length):
 dP (R (λh=>aI P ds (⟨⟨some d,g,.mX 1 x i⟩,[]⟩::rest) (act n l D pm ro) h K) B w0 kl F)
  (∀b o z,xs[k]? =some z->R (λh=>aI P ds rest (act n ((d,.pointer (some ⟨b,o,none⟩))::l) D pm ro) h K) B w0 kl (bz b o [.bool z]::F)):=
 ⟨λr=>(Uv hn hg hx hi hf (by omega) (by omega)).h λb o z hz=>r b o z (by simpa using hz)⟩
end
inductive Fill(ρ:Operand->Value):List Value->List (Nat×Nat×Operand)->List Value->Prop
 |nil {cs:List Value}:Fill ρ cs [] cs
 |cons {cs vs cs' r:List Value} {off size:Nat} {x:Operand} {parts:List (Nat×Nat×Operand)} {v:Value} (h0:ρ x=v) (h1:cellsOf v=some vs) (h2:Nat.beq (iG vs) size=true) (h3:jq cs off vs=some cs') (t:Fill ρ cs' parts r):Fill ρ cs ((off,size,x)::parts) r
theorem Fill.eq{ρ:Operand->Value}:∀{zero:List Value} {parts:List (Nat×Nat×Operand)} {cs:List Value},Fill ρ zero parts cs->rG ρ zero parts=some cs
 |_,_,_,.nil=>rfl
 |cs0,_,_,.cons (off:=off) (size:=size) (x:=x) (parts:=parts) h0 h1 h2 h3 t=>by
  have ih:=t.eq;show(match cellsOf (ρ x)with
   |none=>none
   |some vs=>cond (Nat.beq (iG vs) size) (match jq cs0 off vs with
    |some cs=>rG ρ cs parts
    |none=>none) none)=_
  simp only[h0,h1,h2,h3,cond,ih]
theorem aeh{B:List Nat}{w0:Wd}{kl:List OA}{F:List aD}{K:KO}{ds:List Tmp}{rest:List bP}{n:Nat}{l:List (Nat×Value)}{D:List Deferred}{pm:Option FrameMode}{ro:Option Nat}{d:Nat}{g:Option (Tmp×Bool)}
 {t:TypeId} {len:Nat} {zero cs:List Value} {parts:List (Nat×Nat×Operand)} (hn:Nat.blt d n=true) (hg:bM l g=true) (hx:Fill (ev l) zero parts cs):
 dP (R (λh=>aI P ds (⟨⟨some d,g,.yY t len zero parts⟩,[]⟩::rest) (act n l D pm ro) h K) B w0 kl F)
 (∀b,R (λh=>aI P ds rest (act n ((d,.slice (some ⟨b,0,some 0⟩) len len)::l) D pm ro) h K) B w0 (pt b (.cells cs)::kl) F):=adR hn hg hx.eq
theorem aei{B:List Nat}{w0:Wd}{kl:List OA}{F:List aD}{K:KO}{ds:List Tmp}{rest:List bP}{n:Nat}{l:List (Nat×Value)}{D:List Deferred}{pm:Option FrameMode}{ro:Option Nat}{d:Nat}{g:Option (Tmp×Bool)}
 {zero cs:List Value} {parts:List (Nat×Nat×Operand)} (hn:Nat.blt d n=true) (hg:bM l g=true) (hx:Fill (ev l) zero parts cs):
 dP (R (λh=>aI P ds (⟨⟨some d,g,.build zero parts⟩,[]⟩::rest) (act n l D pm ro) h K) B w0 kl F) (R (λh=>aI P ds rest (act n ((d,.agg ⟨cs⟩)::l) D pm ro) h K) B w0 kl F):=fF hn hg (adq hx.eq)
theorem bY{B:List Nat}{w0:Wd}{kl:List OA}{F:List aD}{α:Type}{E:Enc α}{v:Value}{xs:List α}{Q:IH->Prop}(hf:ah E v xs∈F)(h:∀a c,v=.slice a xs.length c->R Q B w0 kl F):R Q B w0 kl F:=λw s=>by
 obtain⟨a,c,e⟩:=Ut (s.facts _ hf);exact h a c e w s
section
variable {B:List Nat} {w0:Wd} {kl:List OA} {F:List aD} {K:KO} {ds:List Tmp} {rest:List bP} {n:Nat} {l:List (Nat×Value)} {D:List Deferred} {pm:Option FrameMode} {ro:Option Nat} {t1 t2:Nat}
theorem C9{e:Bool}(h1:e=false->R (λh=>aI P ds rest (act n ((t1,.bool false)::(t2,.bool false)::l) D pm ro) h K) B w0 kl F)(h2:e=true->R (λh=>aI P ds rest (act n ((t1,.bool true)::(t2,.bool true)::l) D pm ro) h K) B w0 kl F):
 R (λh=>aI P ds rest (act n ((t1,.bool e)::(t2,.bool e)::l) D pm ro) h K) B w0 kl F:=by
 cases e
 ·exact h1 rfl
 ·exact h2 rfl
theorem Jh{p:Prop}{_:Decidable p}(h1:¬p->R (λh=>aI P ds rest (act n ((t1,.bool false)::(t2,.bool false)::l) D pm ro) h K) B w0 kl F)(h2:p->R (λh=>aI P ds rest (act n ((t1,.bool true)::(t2,.bool true)::l) D pm ro) h K) B w0 kl F):
 R (λh=>aI P ds rest (act n ((t1,.bool (decide p))::(t2,.bool (decide p))::l) D pm ro) h K) B w0 kl F:=
 C9 (λe=>h1 (uI e)) (λe=>h2 (jg e))
theorem Ji{p:Prop}{_:Decidable p}(h1:p->R (λh=>aI P ds rest (act n ((t1,.bool false)::(t2,.bool false)::l) D pm ro) h K) B w0 kl F)(h2:¬p->R (λh=>aI P ds rest (act n ((t1,.bool true)::(t2,.bool true)::l) D pm ro) h K) B w0 kl F):
 R (λh=>aI P ds rest (act n ((t1,.bool (!decide p))::(t2,.bool (!decide p))::l) D pm ro) h K) B w0 kl F:=
 C9 (λe=>h1 (by simpa using e)) (λe=>h2 (by simpa using e))
end
section
variable {B:List Nat} {w0:Wd} {kl kl':List OA} {F:List aD} {K:KO} {ds:List Tmp} {rest:List bP} {n:Nat} {l:List (Nat×Value)} {D:List Deferred} {pm:Option FrameMode} {ro:Option Nat} {d:Nat} {g:Option (Tmp×Bool)}
theorem aej{x:Operand}{t:TypeId}{v:Value}{cs:List Value}(hn:Nat.blt d n=true)(hg:bM l g=true)(hv:ev l x=v)(hx:cellsOf v=some cs):dP (R (λh=>aI P ds (⟨⟨some d,g,.box x t⟩,[]⟩::rest) (act n l D pm ro) h K) B w0 kl F)
 (∀b,R (λh=>aI P ds rest (act n ((d,.pointer (some ⟨b,0,none⟩))::l) D pm ro) h K) B w0 (pt b (.cells cs)::kl) F):=adQ hn hg (by rw[hv];exact hx)
theorem aek{x y:Operand}{b o m:Nat}{cs vs c:List Value}{v:Value}(hg:bM l g=true)(hx:ev l x=.pointer (some ⟨b,o,none⟩))(hw:ev l y=v)(hy:cellsOf v=some vs)(hm:Nat.beq (iG vs) m=true)
 (hk:az (pt b (.cells cs)) kl kl') (hv:jq cs o vs=some c):
 dP (R (λh=>aI P ds (⟨⟨none,g,.store m x y⟩,[]⟩::rest) (act n l D pm ro) h K) B w0 kl F) (R (λh=>aI P ds rest (act n l D pm ro) h K) B w0 (pt b (.cells c)::kl') F):=Us hg hx (by rw[hw];exact hy) hm hk hv
end
theorem ael{B:List Nat}{w0:Wd}{kl:List OA}{F:List aD}{K:KO}{ds:List Tmp}{rest:List bP}{n:Nat}{l:List (Nat×Value)}{D:List Deferred}{pm:Option FrameMode}{ro:Option Nat}{d:Nat}{g:Option (Tmp×Bool)}
 {fn:Fn} {first captured:List Operand} {a b:List Value} (hn:Nat.blt d n=true) (hg:bM l g=true) (h1:EvL (ev l) first a) (h2:EvL (ev l) captured b):
 dP (R (λh=>aI P ds (⟨⟨some d,g,.Cj fn first captured⟩,[]⟩::rest) (act n l D pm ro) h K) B w0 kl F) (R (λh=>aI P ds rest (act n ((d,.func fn ⟨a⟩ ⟨b⟩)::l) D pm ro) h K) B w0 kl F):=fF hn hg (adr h1 h2)
theorem go{G G':Prop}(x:G')(r:dP G G':=by
 repeat (first
  |((with_reducible apply dP.trans);first
   |with_reducible exact ads
   |with_reducible exact adt
   |with_reducible exact adu
   |with_reducible exact adv
   |with_reducible exact adw
   |with_reducible exact adx
   |with_reducible exact ady
   |with_reducible exact adz
   |with_reducible exact adA
   |with_reducible exact adB
   |with_reducible exact adC
   |with_reducible exact adD
   |with_reducible exact adE
   |with_reducible exact adF
   |with_reducible exact adG
   |with_reducible exact adJ
   |with_reducible exact adK
   |with_reducible exact adL
   |((with_reducible apply adH);exact rfl)
   |((with_reducible apply adI);exact rfl)
   |((with_reducible apply adM);(focus exact rfl))
   |((with_reducible apply adN);(focus exact rfl))
   |((with_reducible apply adO);(focus exact rfl);(focus exact rfl))
   |((with_reducible apply aef);(focus exact rfl);(focus exact rfl);(focus ((conv=>lhs;whnf);(first|done|fail)));(focus exact rfl);(focus (((repeat (first|with_reducible exact bR .. |with_reducible apply bU));first|done|fail);(first|done|fail)));(focus ((omega);(first|done|fail))))
   |((with_reducible apply aeg);(focus exact rfl);(focus exact rfl);(focus ((conv=>lhs;whnf);(first|done|fail)));(focus exact rfl);(focus (((repeat (first|with_reducible exact bR .. |with_reducible apply bU));first|done|fail);(first|done|fail)));(focus ((omega);(first|done|fail))))
   |((with_reducible apply Uu);(focus exact rfl);(focus exact rfl);(focus ((conv=>lhs;whnf);(first|done|fail)));(focus exact rfl);(focus (((repeat (first|with_reducible exact bR .. |with_reducible apply bU));first|done|fail);(first|done|fail)));(focus ((omega);(first|done|fail)));(focus ((omega);(first|done|fail))))
   |((with_reducible apply Uv);(focus exact rfl);(focus exact rfl);(focus ((conv=>lhs;whnf);(first|done|fail)));(focus exact rfl);(focus (((repeat (first|with_reducible exact bR .. |with_reducible apply bU));first|done|fail);(first|done|fail)));(focus ((omega);(first|done|fail)));(focus ((omega);(first|done|fail))))
   |((with_reducible apply fF);(focus exact rfl);(focus exact rfl);(focus ((first|((with_reducible apply Iz);(focus ((conv=>lhs;whnf);(first|done|fail))))|((with_reducible apply IA);(focus ((conv=>lhs;whnf);(first|done|fail))))|((with_reducible apply IG);(focus exact rfl))|((with_reducible apply IJ);(focus exact rfl);(focus exact rfl))|((with_reducible apply IK);(focus exact rfl);(focus exact rfl))|((with_reducible apply IL);(focus exact rfl);(focus exact rfl))|((with_reducible apply IM);(focus exact rfl);(focus exact rfl))|((with_reducible apply IP);(focus exact rfl);(focus exact rfl))|((with_reducible apply IQ);(focus exact rfl);(focus exact rfl))|((with_reducible apply IE);(focus exact rfl))|((with_reducible apply IB);(focus exact rfl);(focus ((conv=>lhs;whnf);(first|done|fail))))|((with_reducible apply IC);(focus exact rfl);(focus ((conv=>lhs;whnf);(first|done|fail))))|((with_reducible apply IU);(focus exact rfl);(focus ((conv=>lhs;whnf);(first|done|fail))))|((with_reducible apply IV);(focus exact rfl))|((with_reducible apply IW);(focus exact rfl);(focus ((conv=>lhs;whnf);(first|done|fail))))|((with_reducible apply IX);(focus exact rfl);(focus ((conv=>lhs;whnf);(first|done|fail))))|((with_reducible apply IY);(focus ((conv=>lhs;whnf);(first|done|fail))))|((with_reducible apply IZ);(focus exact rfl))|((with_reducible apply I1);(focus exact rfl))|((with_reducible apply I4);(focus exact rfl))|with_reducible exact II|((with_reducible apply I5);(focus exact rfl);(focus exact rfl);(focus exact rfl))|((with_reducible apply Jg);(focus exact rfl);(focus exact rfl);(focus ((omega);(first|done|fail))))|((with_reducible apply Fy);(focus exact rfl);(focus exact rfl);(focus ((omega);(first|done|fail)));(focus ((omega);(first|done|fail))))|((with_reducible apply I6);(focus exact rfl);(focus exact rfl);(focus ((omega);(first|done|fail)));(focus ((omega);(first|done|fail))))|((with_reducible apply CW);(focus exact rfl);(focus exact rfl);(focus ((omega);(first|done|fail)));(focus ((omega);(first|done|fail))))|((with_reducible apply IR);(focus exact rfl);(focus exact rfl);(focus ((omega);(first|done|fail)));(focus ((omega);(first|done|fail))))|((with_reducible apply Jb);(focus exact rfl);(focus exact rfl);(focus ((first|assumption|kernel_rfl);(first|done|fail))))|((with_reducible apply Jc);(focus exact rfl);(focus exact rfl);(focus ((first|assumption|kernel_rfl);(first|done|fail))))|((with_reducible apply Jd);(focus exact rfl);(focus exact rfl))|((with_reducible apply Je);(focus exact rfl);(focus exact rfl))|((with_reducible apply Jf);(focus exact rfl);(focus exact rfl);(focus ((omega);(first|done|fail)));(focus ((omega);(first|done|fail)))));(first|done|fail))))
   |((with_reducible apply ael);(focus exact rfl);(focus exact rfl);(focus (repeat (first|with_reducible exact EvL.nil|((with_reducible apply EvL.cons);(conv=>lhs;whnf)))));(focus (repeat (first|with_reducible exact EvL.nil|((with_reducible apply EvL.cons);(conv=>lhs;whnf))))))
   |((with_reducible apply aeh);(focus exact rfl);(focus exact rfl);(focus (repeat (first|with_reducible exact Fill.nil|((with_reducible apply Fill.cons);(conv=>lhs;whnf);(conv=>lhs;whnf);(focus exact rfl);(conv=>lhs;whnf))))))
   |((with_reducible apply aei);(focus exact rfl);(focus exact rfl);(focus (repeat (first|with_reducible exact Fill.nil|((with_reducible apply Fill.cons);(conv=>lhs;whnf);(conv=>lhs;whnf);(focus exact rfl);(conv=>lhs;whnf))))))
   |((with_reducible apply aej);(focus exact rfl);(focus exact rfl);(focus ((conv=>lhs;whnf);(first|done|fail)));(focus ((conv=>lhs;whnf);(first|done|fail))))
   |((with_reducible apply adP);(focus exact rfl);(focus exact rfl))
   |((with_reducible apply adT);(focus exact rfl);(focus exact rfl);(focus exact rfl);(focus ((repeat (first|with_reducible exact az.here|with_reducible apply az.there|with_reducible apply az.app));(first|done|fail)));(focus ((conv=>lhs;whnf);(first|done|fail))))
   |((with_reducible apply Uq);(focus exact rfl);(focus exact rfl);(focus exact rfl);(focus ((repeat (first|with_reducible exact az.here|with_reducible apply az.there|with_reducible apply az.app));(first|done|fail)));(focus ((conv=>lhs;whnf);(first|done|fail))))
   |((with_reducible apply adU);(focus exact rfl);(focus exact rfl);(focus exact rfl);(focus (((repeat (first|with_reducible exact bR .. |with_reducible apply bU));first|done|fail);(first|done|fail)));(focus ((conv=>lhs;whnf);(first|done|fail))))
   |((with_reducible apply I9);(focus exact rfl);(focus exact rfl);(focus exact rfl);(focus (((repeat (first|with_reducible exact bR .. |with_reducible apply bU));first|done|fail);(first|done|fail)));(focus ((conv=>lhs;whnf);(first|done|fail))))
   |((with_reducible apply adV);(focus exact rfl);(focus exact rfl);(focus exact rfl);(focus (((repeat (first|with_reducible exact bR .. |with_reducible apply bU));first|done|fail);(first|done|fail)));(focus ((conv=>lhs;whnf);(first|done|fail))))
   |((with_reducible apply Ur);(focus exact rfl);(focus exact rfl);(focus exact rfl);(focus (((repeat (first|with_reducible exact bR .. |with_reducible apply bU));first|done|fail);(first|done|fail)));(focus ((conv=>lhs;whnf);(first|done|fail))))
   |((with_reducible apply aek);(focus exact rfl);(focus exact rfl);(focus ((conv=>lhs;whnf);(first|done|fail)));(focus ((conv=>lhs;whnf);(first|done|fail)));(focus exact rfl);(focus ((repeat (first|with_reducible exact az.here|with_reducible apply az.there|with_reducible apply az.app));(first|done|fail)));(focus ((conv=>lhs;whnf);(first|done|fail))))
   |((with_reducible apply adZ);(focus exact rfl);(focus exact rfl);(focus ((conv=>lhs;whnf);(first|done|fail)));(focus (((repeat (first|with_reducible exact bR .. |with_reducible apply bU));first|done|fail);(first|done|fail))))
   |((with_reducible apply ad1);(focus exact rfl);(focus exact rfl);(focus ((conv=>lhs;whnf);(first|done|fail)));(focus ((repeat (first|with_reducible exact az.here|with_reducible apply az.there|with_reducible apply az.app));(first|done|fail))))
   |((with_reducible apply aeb (re:=_::_));(focus exact rfl);(focus exact rfl);(focus ((first|((with_reducible apply Iz);(focus ((conv=>lhs;whnf);(first|done|fail))))|((with_reducible apply IA);(focus ((conv=>lhs;whnf);(first|done|fail))))|((with_reducible apply IG);(focus exact rfl))|((with_reducible apply IJ);(focus exact rfl);(focus exact rfl))|((with_reducible apply IK);(focus exact rfl);(focus exact rfl))|((with_reducible apply IL);(focus exact rfl);(focus exact rfl))|((with_reducible apply IM);(focus exact rfl);(focus exact rfl))|((with_reducible apply IP);(focus exact rfl);(focus exact rfl))|((with_reducible apply IQ);(focus exact rfl);(focus exact rfl))|((with_reducible apply IE);(focus exact rfl))|((with_reducible apply IB);(focus exact rfl);(focus ((conv=>lhs;whnf);(first|done|fail))))|((with_reducible apply IC);(focus exact rfl);(focus ((conv=>lhs;whnf);(first|done|fail))))|((with_reducible apply IU);(focus exact rfl);(focus ((conv=>lhs;whnf);(first|done|fail))))|((with_reducible apply IV);(focus exact rfl))|((with_reducible apply IW);(focus exact rfl);(focus ((conv=>lhs;whnf);(first|done|fail))))|((with_reducible apply IX);(focus exact rfl);(focus ((conv=>lhs;whnf);(first|done|fail))))|((with_reducible apply IY);(focus ((conv=>lhs;whnf);(first|done|fail))))|((with_reducible apply IZ);(focus exact rfl))|((with_reducible apply I1);(focus exact rfl))|((with_reducible apply I4);(focus exact rfl))|with_reducible exact II|((with_reducible apply I5);(focus exact rfl);(focus exact rfl);(focus exact rfl))|((with_reducible apply Jg);(focus exact rfl);(focus exact rfl);(focus ((omega);(first|done|fail))))|((with_reducible apply Fy);(focus exact rfl);(focus exact rfl);(focus ((omega);(first|done|fail)));(focus ((omega);(first|done|fail))))|((with_reducible apply I6);(focus exact rfl);(focus exact rfl);(focus ((omega);(first|done|fail)));(focus ((omega);(first|done|fail))))|((with_reducible apply CW);(focus exact rfl);(focus exact rfl);(focus ((omega);(first|done|fail)));(focus ((omega);(first|done|fail))))|((with_reducible apply IR);(focus exact rfl);(focus exact rfl);(focus ((omega);(first|done|fail)));(focus ((omega);(first|done|fail))))|((with_reducible apply Jb);(focus exact rfl);(focus exact rfl);(focus ((first|assumption|kernel_rfl);(first|done|fail))))|((with_reducible apply Jc);(focus exact rfl);(focus exact rfl);(focus ((first|assumption|kernel_rfl);(first|done|fail))))|((with_reducible apply Jd);(focus exact rfl);(focus exact rfl))|((with_reducible apply Je);(focus exact rfl);(focus exact rfl))|((with_reducible apply Jf);(focus exact rfl);(focus exact rfl);(focus ((omega);(first|done|fail)));(focus ((omega);(first|done|fail)))));(first|done|fail)));(focus ((repeat (first|exact CZ|refine C8 rfl (by repeat (first|with_reducible exact az.here|with_reducible apply az.there|with_reducible apply az.app)) (by first|exact rfl|(conv=>lhs;whnf)) rfl ?_|refine FC rfl (by(repeat (first|with_reducible exact bR .. |with_reducible apply bU));first|done|fail) (by first|exact rfl|(conv=>lhs;whnf)) rfl ?_|refine FD rfl (by(repeat (first|with_reducible exact bR .. |with_reducible apply bU));first|done|fail) (by first|exact rfl|(conv=>lhs;whnf)) rfl ?_|refine FE rfl (by repeat (first|with_reducible exact az.here|with_reducible apply az.there|with_reducible apply az.app)) (by first|exact rfl|(conv=>lhs;whnf)) rfl ?_|refine FH rfl (by(repeat (first|with_reducible exact bR .. |with_reducible apply bU));first|done|fail) (by first|exact rfl|(conv=>lhs;whnf)) rfl ?_|refine FI rfl (by(repeat (first|with_reducible exact bR .. |with_reducible apply bU));first|done|fail) (by first|exact rfl|(conv=>lhs;whnf)) rfl ?_));(first|done|fail))))
   |((with_reducible apply aea (re:=_::_));(focus exact rfl);(focus exact rfl);(focus ((conv=>lhs;whnf);(first|done|fail)));(focus ((conv=>lhs;whnf);(first|done|fail)));(focus exact rfl);(focus ((repeat (first|with_reducible exact az.here|with_reducible apply az.there|with_reducible apply az.app));(first|done|fail)));(focus ((conv=>lhs;whnf);(first|done|fail)));(focus ((repeat (first|exact CZ|refine C8 rfl (by repeat (first|with_reducible exact az.here|with_reducible apply az.there|with_reducible apply az.app)) (by first|exact rfl|(conv=>lhs;whnf)) rfl ?_|refine FC rfl (by(repeat (first|with_reducible exact bR .. |with_reducible apply bU));first|done|fail) (by first|exact rfl|(conv=>lhs;whnf)) rfl ?_|refine FD rfl (by(repeat (first|with_reducible exact bR .. |with_reducible apply bU));first|done|fail) (by first|exact rfl|(conv=>lhs;whnf)) rfl ?_|refine FE rfl (by repeat (first|with_reducible exact az.here|with_reducible apply az.there|with_reducible apply az.app)) (by first|exact rfl|(conv=>lhs;whnf)) rfl ?_|refine FH rfl (by(repeat (first|with_reducible exact bR .. |with_reducible apply bU));first|done|fail) (by first|exact rfl|(conv=>lhs;whnf)) rfl ?_|refine FI rfl (by(repeat (first|with_reducible exact bR .. |with_reducible apply bU));first|done|fail) (by first|exact rfl|(conv=>lhs;whnf)) rfl ?_));(first|done|fail))))
   |fail)
  |((with_reducible apply dP.all);intro _)
  |with_reducible apply dP.imp)
 with_reducible exact dP.refl _):G:=r.h x
theorem oJ{B:List Nat}{w0:Wd}{kl:List OA}{F:List aD}{K:KO}{c:dm}{a:aV}(r:R (λh=>EV P c a h (zo P (.loop c) K)) B w0 kl F):R (λh=>EV P (.loop c) a h K) B w0 kl F:=λw s=>
 .loop _ (r w s) (λ_ _ hm=>hm) (λo a' h' hm hn=>by
  cases o with
  |normal=>exact absurd rfl hn
  |_=>exact hm)
theorem ko.sub{α:Type}{F0:List α}:∀{F:List α},ko F0 F->Sub F0 F:=λ{F} h=>by
 have:∀k:List α,(∀x∈k,x∈F)->Sub k F:=by
  intro k;induction k with
  |nil=>intro _;exact .nil
  |cons a k ih=>intro hk;exact .cons (hk a (bR ..)) (ih λx hx=>hk x (bU _ hx))
 exact this F0 h.mem
inductive aX{α:Type}:List α->List α->List α->Prop
 |nil {l:List α}:aX [] l l
 |cons {a:α} {k l m:List α} (h:aX k l m):aX (a::k) l (a::m)
 |self {k:List α}:aX k [] k
 |app {k l:List α}:aX k l (k++l)
theorem aX.eq{α:Type}:∀{k l m:List α},aX k l m->k++l=m
 |_,_,_,.nil=>rfl
 |_,_,_,.self=>iK _
 |_,_,_,.app=>rfl
 |_,_,_,.cons h=>by rw[bX,h.eq]
section
variable {B:List Nat} {w0:Wd} {kl kl' aT:List OA} {F:List aD} {K:KO} {ds:List Tmp} {rest:List bP} {n:Nat} {l:List (Nat×Value)} {D:List Deferred} {pm:Option FrameMode} {ro:Option Nat} {d:Nat} {g:Option (Tmp×Bool)}
theorem ak{Y:Type}{f:Operand}{xs:List Operand}{re:List iw}{fn:Fn}{first captured vs as:List Value}{k1:List OA}{F1:List aD}{val:Y->Value}{k1':Y->List OA}{fs:Y->List aD}{pr:Y->Prop}{dS:Y->List OA}{F2:Y->List aD}
 (hc:aQ P fn as captured k1 F1 val k1' fs pr) (hn:Nat.blt d n=true:=by rfl) (hg:bM l g=true:=by rfl) (hf:ev l f=.func fn ⟨first⟩ ⟨captured⟩:=by rfl) (hx:EvL (ev l) xs vs:=by repeat (first|with_reducible exact EvL.nil|((with_reducible apply EvL.cons);(conv=>lhs;whnf)))) (ha:first++vs=as:=by rfl)
 (hk:aO k1 kl aT:=by exact l6) (hF:Sub F1 F:=by exact l5)
 (hak:∀y,aX (k1' y) aT (dS y):=by intro y;repeat (first|exact aX.nil|apply aX.cons|exact aX.self|exact aX.app)) (zA:∀y,aX (fs y) F (F2 y):=by intro y;repeat (first|exact aX.nil|apply aX.cons|exact aX.self|exact aX.app))
 (hs:∀y,pr y->Same P re (ev ((d,val y)::l)) ((d,val y)::l) B w0 (dS y) (F2 y):=by intro _ _;repeat (first|exact CZ|refine C8 rfl (by repeat (first|with_reducible exact az.here|with_reducible apply az.there|with_reducible apply az.app)) (by first|exact rfl|(conv=>lhs;whnf)) rfl ?_|refine FC rfl (by(repeat (first|with_reducible exact bR .. |with_reducible apply bU));first|done|fail) (by first|exact rfl|(conv=>lhs;whnf)) rfl ?_|refine FD rfl (by(repeat (first|with_reducible exact bR .. |with_reducible apply bU));first|done|fail) (by first|exact rfl|(conv=>lhs;whnf)) rfl ?_|refine FE rfl (by repeat (first|with_reducible exact az.here|with_reducible apply az.there|with_reducible apply az.app)) (by first|exact rfl|(conv=>lhs;whnf)) rfl ?_|refine FH rfl (by(repeat (first|with_reducible exact bR .. |with_reducible apply bU));first|done|fail) (by first|exact rfl|(conv=>lhs;whnf)) rfl ?_|refine FI rfl (by(repeat (first|with_reducible exact bR .. |with_reducible apply bU));first|done|fail) (by first|exact rfl|(conv=>lhs;whnf)) rfl ?_|refine UB (by first|((with_reducible apply Iz);(focus ((conv=>lhs;whnf);(first|done|fail))))|((with_reducible apply IA);(focus ((conv=>lhs;whnf);(first|done|fail))))|((with_reducible apply IG);(focus exact rfl))|((with_reducible apply IJ);(focus exact rfl);(focus exact rfl))|((with_reducible apply IK);(focus exact rfl);(focus exact rfl))|((with_reducible apply IL);(focus exact rfl);(focus exact rfl))|((with_reducible apply IM);(focus exact rfl);(focus exact rfl))|((with_reducible apply IP);(focus exact rfl);(focus exact rfl))|((with_reducible apply IQ);(focus exact rfl);(focus exact rfl))|((with_reducible apply IE);(focus exact rfl))|((with_reducible apply IB);(focus exact rfl);(focus ((conv=>lhs;whnf);(first|done|fail))))|((with_reducible apply IC);(focus exact rfl);(focus ((conv=>lhs;whnf);(first|done|fail))))|((with_reducible apply IU);(focus exact rfl);(focus ((conv=>lhs;whnf);(first|done|fail))))|((with_reducible apply IV);(focus exact rfl))|((with_reducible apply IW);(focus exact rfl);(focus ((conv=>lhs;whnf);(first|done|fail))))|((with_reducible apply IX);(focus exact rfl);(focus ((conv=>lhs;whnf);(first|done|fail))))|((with_reducible apply IY);(focus ((conv=>lhs;whnf);(first|done|fail))))|((with_reducible apply IZ);(focus exact rfl))|((with_reducible apply I1);(focus exact rfl))|((with_reducible apply I4);(focus exact rfl))|with_reducible exact II|((with_reducible apply I5);(focus exact rfl);(focus exact rfl);(focus exact rfl))|((with_reducible apply Jg);(focus exact rfl);(focus exact rfl);(focus ((omega);(first|done|fail))))|((with_reducible apply Fy);(focus exact rfl);(focus exact rfl);(focus ((omega);(first|done|fail)));(focus ((omega);(first|done|fail))))|((with_reducible apply I6);(focus exact rfl);(focus exact rfl);(focus ((omega);(first|done|fail)));(focus ((omega);(first|done|fail))))|((with_reducible apply CW);(focus exact rfl);(focus exact rfl);(focus ((omega);(first|done|fail)));(focus ((omega);(first|done|fail))))|((with_reducible apply IR);(focus exact rfl);(focus exact rfl);(focus ((omega);(first|done|fail)));(focus ((omega);(first|done|fail))))|((with_reducible apply Jb);(focus exact rfl);(focus exact rfl);(focus ((first|assumption|kernel_rfl);(first|done|fail))))|((with_reducible apply Jc);(focus exact rfl);(focus exact rfl);(focus ((first|assumption|kernel_rfl);(first|done|fail))))|((with_reducible apply Jd);(focus exact rfl);(focus exact rfl))|((with_reducible apply Je);(focus exact rfl);(focus exact rfl))|((with_reducible apply Jf);(focus exact rfl);(focus exact rfl);(focus ((omega);(first|done|fail)));(focus ((omega);(first|done|fail))))) rfl ?_))
 (next:∀y,pr y->R (λh=>aI P ds rest (act n ((d,val y)::l) D pm ro) h K) B w0 (dS y) (F2 y)):
 R (λh=>aI P ds (⟨⟨some d,g,.call f xs⟩,re⟩::rest) (act n l D pm ro) h K) B w0 kl F:=
 aec hc hn hg hf hx ha hk hF (λy hy=>by rw[(hak y).eq,(zA y).eq];exact hs y hy) (λy hy=>by rw[(hak y).eq,(zA y).eq];exact next y hy)
abbrev eG(P:Program)(f:FuncId)(args:List Value)(F:List aD)(v:Value):Prop:=aQ P (.func f) args [] [] F (λ_:Unit=>v) (λ_=>[]) (λ_=>[]) (λ_=>True)
theorem aK{Y:Type}{f:FuncId}{args cap:List Value}{kl:List OA}{F:List aD}{val:Y->Value}{kl':Y->List OA}{fs:Y->List aD}{pr:Y->Prop}{c:dm}{m:Nat}{l0:List (Nat×Value)}(cf:gU)(hF:(p9 P qI qa).F f=some cf)
 (hb:∀B w0,R (λh=>EV P c (act m l0 [] none none) h (CR cf (Left B w0 val kl' fs pr))) B w0 kl F)
 (h1:cf.body=c:=by conv=>lhs;(reduce;(try simp only[Int.reduceOfNat,Int.reduceNegSucc]))) (h2:rJ cf.ntmps (iG (args++cap))=m:=by conv=>lhs;whnf) (h3:qi 0 (args++cap) []=l0:=by dsimp only[qi,Nat.reduceAdd,List.append_nil,List.cons_append,List.nil_append]):aQ P (.func f) args cap kl F val kl' fs pr:=
 ad8 cf hF (by rw[h1,h2,h3];exact hb)
theorem bZ{α:Type}(E:Enc α){x i:Operand}{v:Value}{xs:List α}{size:Nat}{k:Nat}{kk:IntKind}{F2:α->E.Y->List aD}(hn:Nat.blt d n=true:=by rfl)(hg:bM l g=true:=by rfl)(hx:ev l x=v:=by conv=>lhs;whnf)(hi:ev l i=.int kk (k:Int):=by rfl)
 (hf:ah E v xs∈F:=by exact tX) (hs:E.n=size:=by rfl) (h1:k<xs.length:=by omega)
 (ha:∀z y,aX (E.fs z y) F (F2 z y):=by intro z y;repeat (first|exact aX.nil|apply aX.cons|exact aX.self|exact aX.app))
 (next:∀b o z y,xs[k]? =some z->R (λh=>aI P ds rest (act n ((d,.pointer (some ⟨b,o,none⟩))::l) D pm ro) h K) B w0 kl (bz b o (E.pat z y)::F2 z y)):
 R (λh=>aI P ds (⟨⟨some d,g,.mX size x i⟩,[]⟩::rest) (act n l D pm ro) h K) B w0 kl F:=
 (NQ hn hg hx hi hf hs (by omega) (by omega)).h λb o z y hz=>by rw[(ha z y).eq];exact next b o z y (by simpa using hz)
theorem aj{Y:Type}{o:Out}{cf:gU}{vs:List Value}{val:Y->Value}{k1:Y->List OA}{fs:Y->List aD}{pr:Y->Prop}(y:Y)
 (hr:RS l kl cf.results vs:=by exact Be) (hv:qP vs=val y:=by rfl) (hp:pr y)
 (hk:aO (k1 y) kl aT:=by exact l6) (hF:Sub (fs y) F:=by exact l5)
 (ho:o=.normal\/o=.ret:=by first|exact .inl rfl|exact .inr rfl):R (λh=>CR cf (Left B w0 val k1 fs pr) o (act n l [] none ro) h) B w0 kl F:=
 UC y hr hv hp hk hF ho
theorem aZ{A:OA}{fs F2:List aD}{Q:IH->Prop}(hA:qO A fs)(hk:az A kl kl':=by exact fB)(ha:aX fs F F2:=by repeat (first|exact aX.nil|apply aX.cons|exact aX.self|exact aX.app))(h:R Q B w0 kl' F2):R Q B w0 kl F:=
 ad3 hA hk (by rw[ha.eq];exact h)
theorem bQ{X:Type}{c:dm}{l0:List (Nat×Value)}{L2:X->List (Nat×Value)}{zB:X->List OA}{zC:X->List aD}(m:X->Nat)(L:X->List (Nat×Value))(KL:X->List OA)(FF:X->List aD)(inv:X->Prop)(x0:X)(hi:inv x0)
 (h0:oI l (L x0) l0:=by repeat (first|exact oI.nil|(apply oI.drop;(focus exact rfl))|(apply oI.keep;(focus exact rfl)))) (hl:sub (L x0++l0) l:=by repeat (first|exact trivial|refine⟨rfl,?_⟩))
 (hk:aO (KL x0) kl aT:=by exact l6) (hF:Sub (FF x0) F:=by exact l5)
 (hak:∀x,aX (KL x) aT (zB x):=by intro y;repeat (first|exact aX.nil|apply aX.cons|exact aX.self|exact aX.app)) (zA:∀x,aX (FF x) F (zC x):=by intro y;repeat (first|exact aX.nil|apply aX.cons|exact aX.self|exact aX.app))
 (hal:∀x,aX (L x) l0 (L2 x):=by intro y;repeat (first|exact aX.nil|apply aX.cons|exact aX.self|exact aX.app))
 (body:∀x,inv x->R (λh=>EV P c (act n (L2 x) D pm ro) h (uV (LI n D pm ro B w0 m L KL FF inv l0 aT F) (m x) K)) B w0 (zB x) (zC x)):
 R (λh=>EV P (.loop c) (act n l D pm ro) h K) B w0 kl F:=
 aed m L KL FF inv x0 hi l0 hl hk hF λx hx=>by rw[(hak x).eq,(zA x).eq,(hal x).eq];exact body x hx
theorem bi{X:Type}{m:X->Nat}{L:X->List (Nat×Value)}{KL:X->List OA}{FF:X->List aD}{inv:X->Prop}{l0:List (Nat×Value)}{zD dS:List OA}{F0:List aD}{m0:Nat}(x:X)(hm:m x<m0)(hi:inv x)
 (hl:sub (L x++l0) l:=by repeat (first|exact trivial|refine⟨rfl,?_⟩)) (ha:aX (KL x) aT zD:=by repeat (first|exact aX.nil|apply aX.cons|exact aX.self|exact aX.app))
 (hk:aO zD kl dS:=by exact l6) (hF:Sub (FF x) F:=by exact l5)
 (uW:ko F0 F:=by repeat (first|exact ko.here|apply ko.cons|apply ko.app)):
 R (λh=>uV (LI n D pm ro B w0 m L KL FF inv l0 aT F0) m0 K .normal (act n l D pm ro) h) B w0 kl F:=
 aee x hm hi hl (by rw[ha.eq];exact hk) hF uW
end
end Go.Ideal
namespace Go.Ideal
class Da (e:Bool) (f t:outParam Prop):Prop where
 no:e=false->f
 yes:e=true->t
instance (priority:=low) amQ {e:Bool}:Da e (e=false) (e=true):=⟨id,id⟩
instance amR {p:Prop} {_:Decidable p}:Da (decide p) (¬p) p:=⟨uI,jg⟩
instance amS {p:Prop} {_:Decidable p}:Da (!decide p) p (¬p):=⟨λe=>by simpa using e,λe=>by simpa using e⟩
section
variable {P:Program}
variable {B:List Nat} {w0:Wd} {kl:List OA} {F:List aD} {K:KO} {ds:List Tmp} {rest:List bP} {n:Nat} {l:List (Nat×Value)} {D:List Deferred} {pm:Option FrameMode} {ro:Option Nat} {t1 t2:Nat}
theorem gG{e:Bool}{f t:Prop}[Da e f t](h1:f->R (λh=>aI P ds rest (act n ((t1,.bool false)::(t2,.bool false)::l) D pm ro) h K) B w0 kl F)(h2:t->R (λh=>aI P ds rest (act n ((t1,.bool true)::(t2,.bool true)::l) D pm ro) h K) B w0 kl F):
 R (λh=>aI P ds rest (act n ((t1,.bool e)::(t2,.bool e)::l) D pm ro) h K) B w0 kl F:=
 C9 (λx=>h1 (Da.no x)) (λx=>h2 (Da.yes x))
end
section
instance amT {n:Nat}:OfNat Operand n:=⟨.tmp n⟩
abbrev kI(n:Int):Operand:=.const (.int .i64 n)
abbrev vI:Value:=.int .i64 0
abbrev vS:Value:=.slice none 0 0
abbrev vE:Value:=.string ⟨⟨[]⟩⟩
abbrev kC(f:Nat)(l:List Operand):aF:=.call (.func f) l
abbrev kS(n:Nat)(e:aF):bP:=⟨⟨some n,none,e⟩,[]⟩
abbrev kN(e:aF):bP:=⟨⟨none,none,e⟩,[]⟩
abbrev kM(n:Nat)(x:Operand):bP:=kS n (.mv x)
abbrev kO(l:List bP):dm:=.ops (l.filterMap λx=>x.s.dst) l
end
end Go.Ideal
namespace Go.Ideal
theorem aem{P:Program}{f:FuncId}{v:Value}(hs:∀h,CALL P ⟨.func f,[],[],none⟩ h (λr pm h'=>pm=none/\r=.ok v/\h'=h)):eG P f [] [] v:=λB w s=>
 .rU _ (hs w.h) (by rintro r pm h' ⟨rfl,rfl,rfl⟩;exact⟨rfl,w,(),rfl,s,rfl,trivial⟩)
noncomputable def Jj(L:Lay):Wd:=⟨kE L,λi=>i<(kE L).next,λ_ h=>h⟩
end Go.Ideal
namespace Go.Ideal
open Go.ChangeShapes Go.WideShapes Go.ChangeAt Go.RowKit
variable {P:Program}
def Db{α:Type}(P:Program)(t:TypeId)(E:Enc α):Prop:=∀(w:Wd) (H:Type) (d:DataW H) (cs:List Value),(∀i,i<w.h.next->w.z i)->iD P w.h t cs d->∃a y,cs=E.pat a y/\∀f∈E.fs a y,f.p w
theorem Jk{α:Type}{p:Nat->α->Prop}:∀n,(∀k,k<n->∃a,p k a)->∃l:List α,l.length=n/\∀(k:Nat) a,l[k]? =some a->p k a
 |0,_=>⟨[],rfl,λk a h=>by cases h⟩
 |n+1,h=>by
  obtain⟨l,h1,h2⟩:=Jk n (λk hk=>h k (by omega));obtain⟨a,ha⟩:=h n (by omega);refine⟨l++[a],by simp[h1],λk b hb=>?_⟩;by_cases hk:k<l.length
  ·rw[ol hk]at hb;exact h2 k b hb
  ·rw[mU (by omega)]at hb;have hk0:k=n:=by have:=(aW.1 hb).1;simp at this;omega
   subst hk0;rw[h1]at hb;simp at hb;subst hb;exact ha
def UD{α β:Type}(E1:Enc α)(E2:Enc β):Enc (α×β):=⟨E1.n+E2.n,E1.Y×E2.Y,λa y=>E1.pat a.1 y.1++E2.pat a.2 y.2,λa y=>E1.fs a.1 y.1++E2.fs a.2 y.2,λa y=>by rw[gP,E1.len,E2.len]⟩
def UE:Enc Unit:=⟨0,Unit,λ_ _=>[],λ_ _=>[],λ_ _=>rfl⟩
inductive Dc(P:Program):{α:Type}->List Field->Enc α->Prop
 |nil:Dc P [] UE
 |cons {α β:Type} {f:Field} {fs:List Field} {E1:Enc α} {E2:Enc β} (h:Db P f.type E1) (hn:P.cellsOf f.type=E1.n) (t:Dc P fs E2):Dc P (f::fs) (UD E1 E2)
theorem Dc.Jl{w:Wd}{H:Type}(hz:∀i,i<w.h.next->w.z i):∀{α:Type} {fs:List Field} {E:Enc α},Dc P fs E->∀(o0:Nat) (cs:List Value) (ds:List (DataW H)),cs.length=(fs.map λf=>P.cellsOf f.type).sum->ds.length=fs.length->
 fs.map (·.offset)=sums o0 (fs.map λf=>P.cellsOf f.type)->(∀(j:Nat) f d,fs[j]? =some f->ds[j]? =some d->iD P w.h f.type ((cs.drop (f.offset - o0)).take (P.cellsOf f.type)) d)->∃a y,cs=E.pat a y/\∀f∈E.fs a y,f.p w
 |_,_,_,.nil,o0,cs,ds,h1,h2,h3,h4=>⟨(),(),lQ.1 (by simpa using h1),λf hf=>by cases hf⟩
 |_,_,_,.cons (f:=f) (fs:=fs) (E1:=E1) (E2:=E2) h hn t,o0,cs,ds,h1,h2,h3,h4=>by
  match ds,h2 with
  |d::ds,h2=>
   simp only[fI,yR,sums,Ai]at h1 h3;obtain⟨ho,h3⟩:=h3;have r0:=h4 0 f d rfl rfl;rw[ho,vU,Er]at r0;obtain⟨a,y,q1,q2⟩:=h w H d _ hz r0;obtain⟨b,z,u1,u2⟩:=Dc.Jl hz t (o0+P.cellsOf f.type) (cs.drop (P.cellsOf f.type)) ds (by rw[uG];omega) (by simpa using h2) h3 (λj g e hg he=>by
    have:=h4 (j+1) g e hg he;rw[List.drop_drop];have hle:o0+P.cellsOf f.type<=g.offset:=by
     have hj:(fs.map (·.offset))[j]? =some g.offset:=by rw[dR,hg];rfl
     rw[h3]at hj;have hs:(fs.map λf=>P.cellsOf f.type)[j]? =some (P.cellsOf g.type):=by rw[dR,hg];rfl
     exact(zu _ ([]:List Value) (o0+P.cellsOf f.type) j _ _ hj hs).2
    rw[show P.cellsOf f.type+(g.offset - (o0+P.cellsOf f.type))=g.offset - o0 by omega];exact this)
   refine⟨(a,b),(y,z),?_,?_⟩
   ·show cs=E1.pat a y++E2.pat b z;rw[<- q1,<- u1,mM]
   ·intro g hg;rcases gH.1 hg with hg|hg
    ·exact q2 g hg
    ·exact u2 g hg
theorem Db.conv{α β:Type}{t:TypeId}{E:Enc α}{E':Enc β}(h:Db P t E)(hc:∀a y,∃b z,E.pat a y=E'.pat b z/\E.fs a y=E'.fs b z):Db P t E':=λw H d cs hz r=>by
 obtain⟨a,y,q1,q2⟩:=h w H d cs hz r;obtain⟨b,z,e1,e2⟩:=hc a y;exact⟨b,z,by rw[q1,e1],λf hf=>q2 f (by rw[e2];exact hf)⟩
section
variable {H:Type} {enc:TypeId×Value->H} {W:World} {K:TypeId->Prop}
def wB(P:Program)(w:Wd)(t:TypeId)(v:Value){H:Type}(d:DataW H):Prop:=∃cs,iD P w.h t cs d/\((jD P t=true/\v=.agg ⟨cs⟩)\/(jD P t=false/\cs=[v]))
theorem wB.agg{α:Type}{w:Wd}{t:TypeId}{v:Value}{d:DataW H}{E:Enc α}(h:wB P w t v d)(hz:∀i,i<w.h.next->w.z i)(ha:jD P t=true)(hr:Db P t E):∃a y,v=.agg ⟨E.pat a y⟩/\∀f∈E.fs a y,f.p w:=by
 obtain⟨cs,r,⟨_,e⟩|⟨e,_⟩⟩:=h
 ·obtain⟨a,y,rfl,q⟩:=hr w H d cs hz r;exact⟨a,y,e,q⟩
 ·rw[ha]at e;cases e
theorem wB.one{α:Type}{w:Wd}{t:TypeId}{v:Value}{d:DataW H}{E:Enc α}(h:wB P w t v d)(hz:∀i,i<w.h.next->w.z i)(ha:jD P t=false)(hr:Db P t E):∃a y,E.pat a y=[v]/\∀f∈E.fs a y,f.p w:=by
 obtain⟨cs,r,⟨e,_⟩|⟨_,e⟩⟩:=h
 ·rw[ha]at e;cases e
 ·obtain⟨a,y,q0,q⟩:=hr w H d cs hz r;exact⟨a,y,by rw[<- q0,e],q⟩
theorem aen{L:Lay}{t:TypeId}{v v0:Value}{d:DataW H}{w:Wd}(hw:w.h=kE L)(r:zx P (kE L) t v d)(hv:VR (kg L) v v0)(hok:Value.okWide P W .any 0 t v0):wB P w t v d:=by
 obtain⟨cs,r1,h2,h3⟩:=r;refine⟨cs,by rw[hw];exact r1,?_⟩;cases ha:jD P t with
 |true=>
  left;refine⟨rfl,?_⟩;rcases h3 with e|e
  ·subst e;have hagg:∃c,v0=.agg c:=by
    unfold jD at ha;unfold Value.okWide at hok;split at ha
    ·rename_i fs hu;rw[hu]at hok;obtain⟨c,e,_⟩:=hok;exact⟨c,e⟩
    ·rename_i n e hu;rw[hu]at hok;obtain⟨c,e,_⟩:=hok;exact⟨c,e⟩
    ·cases ha
   obtain⟨c,rfl⟩:=hagg
   exfalso
   cases hv<;>simp[cellV]at h2
  ·exact e
 |false=>
  right;refine⟨rfl,?_⟩;rcases h3 with e|e
  ·exact e
  ·subst e
   exfalso
   cases hv with
   |agg hc hl=>
    cases hu:P.underlying t with
    |none=>simp[Value.okWide,Cell.okWide,Cell.ok,hu]at hok
    |some d=>cases d<;>simp[Value.okWide,Cell.okWide,Cell.ok,jD,hu]at hok ha
theorem aeo{ts:List TypeId}{vs' vs:List Value}{L:Lay}(hv:aS (kg L) vs' vs):∀(j:Nat) v',vs'[j]? =some v'->∃v,vs[j]? =some v/\VR (kg L) v' v:=by
 intro j;induction j generalizing vs' vs with
 |zero=>
  intro v' h;cases hv with
  |nil=>cases h
  |cons h1 h2=>cases h;exact⟨_,rfl,h1⟩
 |succ j ih=>
  intro v' h;cases hv with
  |nil=>cases h
  |cons h1 h2=>exact ih h2 v' h
theorem Jm{a:Nat}{b:Nat->Bool}{c:Bool}:∀{ts:List TypeId} {vs:List Value} {ds:List (DataW H)} {ps:List MemPlace},DataW.TrodAll enc P W a b c ts vs ds ps->vs.length=ts.length/\ds.length=ts.length
 |[],[],[],_,_=>⟨rfl,rfl⟩
 |_::_,_::_,_::_,_,⟨_,_,_,h,_⟩=>by
  have:=Jm h;simp[this.1,this.2]
theorem Jn{α:Type}{l:List α}(h:l.length=4):∃a b c d,l=[a,b,c,d]:=by
 match l,h with
 |[a,b,c,d],_=>exact⟨a,b,c,d,rfl⟩
theorem NT(qg:P.follows .mixedOrders=true)(hgl:P.globals.size=0){f:FuncId}(fn:Func)(hfn:P.funcs[f]? =some fn)(hbody:fn.body.isNone=false)(hname:(fn.name== "runtime.NumGoroutine")=false)
 (hK:∀t,K t->PlainT P K t) {ts:List TypeId} {vs:List Value} {ds:List (DataW H)} {ps:List MemPlace} (hT:∀t∈ts,K t) (hok:∀(j:Nat) t v,ts[j]? =some t->vs[j]? =some v->Value.okWide P W .any 0 t v)
 (hA:DataW.TrodAll enc P W 0 (λ_=>true) true ts vs ds ps)
 (aep:∀(w:Wd) (vs':List Value),(∀i,i<w.h.next->w.z i)->vs'.length=vs.length->(∀(j:Nat) t v d,ts[j]? =some t->vs'[j]? =some v->ds[j]? =some d->wB P w t v d)->∃F,(∀f∈F,f.p w)/\eG P f vs' F (.bool true)):
 Calls P f ⟨vs⟩ W (λe w'=>e=.returned (.bool true)/\Below W.heap.size W w'):=by
 obtain⟨M,vs',h1,h2,h3⟩:=Um hK hT hok hA [];rw[bH]at h1 h2;refine adb qg hgl fn hfn hbody hname (L:=M) (args:=vs') (λi g cs hi=>h3 i g cs (dK _) (by simpa using hi)|>λq=>by simpa using q) h1 rfl ?_;have hlen:vs'.length=vs.length:=by
  have:∀{a b:List Value},aS (kg M) a b->a.length=b.length:=by
   intro a;induction a with
   |nil=>intro b h;cases h;rfl
   |cons x a ih=>intro b h;cases h with|cons q r=>simp[ih r]
  exact this h1
 obtain⟨F,hF,hfn'⟩:=aep (Jj M) vs' (λi hi=>hi) hlen (λj t v d ht hv hd=>by
  obtain⟨v0,e,oD⟩:=aeo (ts:=ts) h1 j v hv;exact aen rfl (h2 j t v d ht hv hd) oD (hok j t v0 ht e))
 have st:St [] (Jj M) [] F (Jj M):=⟨⟨bB _,λ_ _ _=>rfl,λ_ _=>rfl⟩,Wd.Le.refl _,λi _ hz=>.inl hz,⟨[],rfl,yU,λi hi=>by cases hi⟩,hF⟩
 refine .rU _ (hfn' [] (Jj M) st) ?_;rintro r pm h' ⟨rfl,w',y,rfl,s,rfl,_⟩;exact⟨rfl,rfl,⟨s.agree.next,λi hi=>s.agree.get i hi (by simp),λhl=>s.agree.low hl (by simp)⟩⟩
end
