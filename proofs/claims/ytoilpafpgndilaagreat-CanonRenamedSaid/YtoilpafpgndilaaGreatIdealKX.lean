/-
  Part IdealKX.
-/
import Derived.Test.YtoilpafpgndilaaGreatIdealJX
import Derived.Test.YtoilpafpgndilaaGreatIdealIX
set_option linter.all false
namespace Go.Ideal
theorem o9{p:Prop}(h:p:=by repeat (first|exact Sub.nil|(apply Sub.cons;(focus ((repeat (first|with_reducible exact cB .. |with_reducible apply cO));first|done|fail)))|exact lT.sub (by repeat (first|with_reducible exact lT.here|with_reducible apply lT.cons|with_reducible apply lT.app)))):p:=h
theorem pg{p:Prop}(h:p:=by repeat (first|exact aI.nil|(apply aI.cons;(focus (repeat (first|with_reducible exact az.here|with_reducible apply az.there|with_reducible apply az.app))))|with_reducible exact aI.all _|with_reducible exact aI.self _ _|with_reducible apply aI.there)):p:=h
theorem gN{p:Prop}(h:p:=by repeat (first|with_reducible exact az.here|with_reducible apply az.there|with_reducible apply az.app)):p:=h
theorem Cz{p:Prop}(h:p:=by repeat (first|exact RS.nil|(apply RS.tmp;(conv=>lhs;whnf))|(apply RS.cell1;(focus exact rfl);(focus (repeat (first|with_reducible exact az.here|with_reducible apply az.there|with_reducible apply az.app)));(conv=>lhs;whnf))|(apply RS.qA;(focus exact rfl);(focus (repeat (first|with_reducible exact az.here|with_reducible apply az.there|with_reducible apply az.app)));(conv=>lhs;whnf)))):p:=h
theorem vW{p:Prop}(h:p:=by(repeat (first|with_reducible exact cB .. |with_reducible apply cO));first|done|fail):p:=h
variable {P:Program}
section
variable {B:List Nat} {w0:Wd} {kl:List OA} {F:List aO} {K:KO} {ds:List Tmp} {rest:List bV} {n:Nat} {l:List (Nat×Value)} {D:List Deferred} {pm:Option FrameMode} {ro:Option Nat} {d:Nat} {g:Option (Tmp×Bool)}
theorem aco{x i:Operand}{v:Value}{xs:List Int}{k:Nat}{kk:IntKind}(hn:Nat.blt d n=true)(hg:cZ l g=true)(hx:ev l x=v)(hi:ev l i=.int kk (k:Int))(hf:ai ae v xs∈F)(h1:k<xs.length):
 dQ (R (λh=>aH P ds (⟨⟨some d,g,.nQ 1 x i⟩,[]⟩::rest) (act n l D pm ro) h K) B w0 kl F)
  (∀b o z,xs[k]? =some z->R (λh=>aH P ds rest (act n ((d,.pointer (some ⟨b,o,none⟩))::l) D pm ro) h K) B w0 kl (gY b o [.int .i64 z]::F)):=
 ⟨λr=>(Sc hn hg hx hi hf (by omega) (by omega)).h λb o z hz=>r b o z (by simpa using hz)⟩
theorem acp{x i:Operand}{v:Value}{xs:List Bool}{k:Nat}{kk:IntKind}(hn:Nat.blt d n=true)(hg:cZ l g=true)(hx:ev l x=v)(hi:ev l i=.int kk (k:Int))(hf:ai R8 v xs∈F)(h1:k<xs.length):
 dQ (R (λh=>aH P ds (⟨⟨some d,g,.nQ 1 x i⟩,[]⟩::rest) (act n l D pm ro) h K) B w0 kl F)
  (∀b o z,xs[k]? =some z->R (λh=>aH P ds rest (act n ((d,.pointer (some ⟨b,o,none⟩))::l) D pm ro) h K) B w0 kl (gY b o [.bool z]::F)):=
 ⟨λr=>(Sd hn hg hx hi hf (by omega) (by omega)).h λb o z hz=>r b o z (by simpa using hz)⟩
end
inductive Fill(ρ:Operand->Value):List Value->List (Nat×Nat×Operand)->List Value->Prop
 |nil {cs:List Value}:Fill ρ cs [] cs
 |cons {cs vs cs' r:List Value} {off size:Nat} {x:Operand} {parts:List (Nat×Nat×Operand)} {v:Value} (h0:ρ x=v) (h1:cellsOf v=some vs) (h2:Nat.beq (iL vs) size=true) (h3:jV cs off vs=some cs') (t:Fill ρ cs' parts r):Fill ρ cs ((off,size,x)::parts) r
theorem Fill.eq{ρ:Operand->Value}:∀{zero:List Value} {parts:List (Nat×Nat×Operand)} {cs:List Value},Fill ρ zero parts cs->rA ρ zero parts=some cs
 |_,_,_,.nil=>rfl
 |cs0,_,_,.cons (off:=off) (size:=size) (x:=x) (parts:=parts) h0 h1 h2 h3 t=>by
  have ih:=t.eq;show(match cellsOf (ρ x)with
   |none=>none
   |some vs=>cond (Nat.beq (iL vs) size) (match jV cs0 off vs with
    |some cs=>rA ρ cs parts
    |none=>none) none)=_
  simp only[h0,h1,h2,h3,cond,ih]
theorem acr{B:List Nat}{w0:Wd}{kl:List OA}{F:List aO}{K:KO}{ds:List Tmp}{rest:List bV}{n:Nat}{l:List (Nat×Value)}{D:List Deferred}{pm:Option FrameMode}{ro:Option Nat}{d:Nat}{g:Option (Tmp×Bool)}
 {t:TypeId} {len:Nat} {zero cs:List Value} {parts:List (Nat×Nat×Operand)} (hn:Nat.blt d n=true) (hg:cZ l g=true) (hx:Fill (ev l) zero parts cs):
 dQ (R (λh=>aH P ds (⟨⟨some d,g,.wU t len zero parts⟩,[]⟩::rest) (act n l D pm ro) h K) B w0 kl F)
 (∀b,R (λh=>aH P ds rest (act n ((d,.slice (some ⟨b,0,some 0⟩) len len)::l) D pm ro) h K) B w0 (pt b (.cells cs)::kl) F):=abZ hn hg hx.eq
theorem acs{B:List Nat}{w0:Wd}{kl:List OA}{F:List aO}{K:KO}{ds:List Tmp}{rest:List bV}{n:Nat}{l:List (Nat×Value)}{D:List Deferred}{pm:Option FrameMode}{ro:Option Nat}{d:Nat}{g:Option (Tmp×Bool)}
 {zero cs:List Value} {parts:List (Nat×Nat×Operand)} (hn:Nat.blt d n=true) (hg:cZ l g=true) (hx:Fill (ev l) zero parts cs):
 dQ (R (λh=>aH P ds (⟨⟨some d,g,.build zero parts⟩,[]⟩::rest) (act n l D pm ro) h K) B w0 kl F) (R (λh=>aH P ds rest (act n ((d,.agg ⟨cs⟩)::l) D pm ro) h K) B w0 kl F):=fA hn hg (aby hx.eq)
theorem aS{B:List Nat}{w0:Wd}{kl:List OA}{F:List aO}{α:Type}{E:Enc α}{v:Value}{xs:List α}{Q:IH->Prop}(hf:ai E v xs∈F)(h:∀a c,v=.slice a xs.length c->R Q B w0 kl F):R Q B w0 kl F:=λw s=>by
 obtain⟨a,c,e⟩:=Sb (s.facts _ hf);exact h a c e w s
section
variable {B:List Nat} {w0:Wd} {kl:List OA} {F:List aO} {K:KO} {ds:List Tmp} {rest:List bV} {n:Nat} {l:List (Nat×Value)} {D:List Deferred} {pm:Option FrameMode} {ro:Option Nat} {t1 t2:Nat}
theorem lU{e:Bool}(h1:e=false->R (λh=>aH P ds rest (act n ((t1,.bool false)::(t2,.bool false)::l) D pm ro) h K) B w0 kl F)(h2:e=true->R (λh=>aH P ds rest (act n ((t1,.bool true)::(t2,.bool true)::l) D pm ro) h K) B w0 kl F):
 R (λh=>aH P ds rest (act n ((t1,.bool e)::(t2,.bool e)::l) D pm ro) h K) B w0 kl F:=by
 cases e
 ·exact h1 rfl
 ·exact h2 rfl
theorem oF{p:Prop}{_:Decidable p}(h1:¬p->R (λh=>aH P ds rest (act n ((t1,.bool false)::(t2,.bool false)::l) D pm ro) h K) B w0 kl F)(h2:p->R (λh=>aH P ds rest (act n ((t1,.bool true)::(t2,.bool true)::l) D pm ro) h K) B w0 kl F):
 R (λh=>aH P ds rest (act n ((t1,.bool (decide p))::(t2,.bool (decide p))::l) D pm ro) h K) B w0 kl F:=
 lU (λe=>h1 (nC e)) (λe=>h2 (iI e))
theorem nK{p:Prop}{_:Decidable p}(h1:p->R (λh=>aH P ds rest (act n ((t1,.bool false)::(t2,.bool false)::l) D pm ro) h K) B w0 kl F)(h2:¬p->R (λh=>aH P ds rest (act n ((t1,.bool true)::(t2,.bool true)::l) D pm ro) h K) B w0 kl F):
 R (λh=>aH P ds rest (act n ((t1,.bool (!decide p))::(t2,.bool (!decide p))::l) D pm ro) h K) B w0 kl F:=
 lU (λe=>h1 (by simpa using e)) (λe=>h2 (by simpa using e))
end
section
variable {B:List Nat} {w0:Wd} {kl kl':List OA} {F:List aO} {K:KO} {ds:List Tmp} {rest:List bV} {n:Nat} {l:List (Nat×Value)} {D:List Deferred} {pm:Option FrameMode} {ro:Option Nat} {d:Nat} {g:Option (Tmp×Bool)}
theorem acu{x:Operand}{t:TypeId}{v:Value}{cs:List Value}(hn:Nat.blt d n=true)(hg:cZ l g=true)(hv:ev l x=v)(hx:cellsOf v=some cs):dQ (R (λh=>aH P ds (⟨⟨some d,g,.box x t⟩,[]⟩::rest) (act n l D pm ro) h K) B w0 kl F)
 (∀b,R (λh=>aH P ds rest (act n ((d,.pointer (some ⟨b,0,none⟩))::l) D pm ro) h K) B w0 (pt b (.cells cs)::kl) F):=abY hn hg (by rw[hv];exact hx)
theorem acv{x y:Operand}{b o m:Nat}{cs vs c:List Value}{v:Value}(hg:cZ l g=true)(hx:ev l x=.pointer (some ⟨b,o,none⟩))(hw:ev l y=v)(hy:cellsOf v=some vs)(hm:Nat.beq (iL vs) m=true)
 (hk:az (pt b (.cells cs)) kl kl') (hv:jV cs o vs=some c):
 dQ (R (λh=>aH P ds (⟨⟨none,g,.store m x y⟩,[]⟩::rest) (act n l D pm ro) h K) B w0 kl F) (R (λh=>aH P ds rest (act n l D pm ro) h K) B w0 (pt b (.cells c)::kl') F):=ab5 hg hx (by rw[hw];exact hy) hm hk hv
end
theorem acw{B:List Nat}{w0:Wd}{kl:List OA}{F:List aO}{K:KO}{ds:List Tmp}{rest:List bV}{n:Nat}{l:List (Nat×Value)}{D:List Deferred}{pm:Option FrameMode}{ro:Option Nat}{d:Nat}{g:Option (Tmp×Bool)}
 {fn:Fn} {first captured:List Operand} {a b:List Value} (hn:Nat.blt d n=true) (hg:cZ l g=true) (h1:EvL (ev l) first a) (h2:EvL (ev l) captured b):
 dQ (R (λh=>aH P ds (⟨⟨some d,g,.BM fn first captured⟩,[]⟩::rest) (act n l D pm ro) h K) B w0 kl F) (R (λh=>aH P ds rest (act n ((d,.func fn ⟨a⟩ ⟨b⟩)::l) D pm ro) h K) B w0 kl F):=fA hn hg (abz h1 h2)
theorem go{G G':Prop}(x:G')(r:dQ G G':=by
 repeat (first
  |((with_reducible apply dQ.trans);first
   |with_reducible exact abA
   |with_reducible exact abB
   |with_reducible exact abC
   |with_reducible exact abD
   |with_reducible exact abE
   |with_reducible exact abF
   |with_reducible exact abG
   |with_reducible exact abH
   |with_reducible exact abI
   |with_reducible exact abJ
   |with_reducible exact abK
   |with_reducible exact abL
   |with_reducible exact abM
   |with_reducible exact abN
   |with_reducible exact abO
   |with_reducible exact abR
   |with_reducible exact abS
   |with_reducible exact abT
   |((with_reducible apply abP);exact rfl)
   |((with_reducible apply abQ);exact rfl)
   |((with_reducible apply abU);(focus exact rfl))
   |((with_reducible apply abV);(focus exact rfl))
   |((with_reducible apply abW);(focus exact rfl);(focus exact rfl))
   |((with_reducible apply aco);(focus exact rfl);(focus exact rfl);(focus ((conv=>lhs;whnf);(first|done|fail)));(focus exact rfl);(focus (((repeat (first|with_reducible exact cB .. |with_reducible apply cO));first|done|fail);(first|done|fail)));(focus ((omega);(first|done|fail))))
   |((with_reducible apply acp);(focus exact rfl);(focus exact rfl);(focus ((conv=>lhs;whnf);(first|done|fail)));(focus exact rfl);(focus (((repeat (first|with_reducible exact cB .. |with_reducible apply cO));first|done|fail);(first|done|fail)));(focus ((omega);(first|done|fail))))
   |((with_reducible apply Sc);(focus exact rfl);(focus exact rfl);(focus ((conv=>lhs;whnf);(first|done|fail)));(focus exact rfl);(focus (((repeat (first|with_reducible exact cB .. |with_reducible apply cO));first|done|fail);(first|done|fail)));(focus ((omega);(first|done|fail)));(focus ((omega);(first|done|fail))))
   |((with_reducible apply Sd);(focus exact rfl);(focus exact rfl);(focus ((conv=>lhs;whnf);(first|done|fail)));(focus exact rfl);(focus (((repeat (first|with_reducible exact cB .. |with_reducible apply cO));first|done|fail);(first|done|fail)));(focus ((omega);(first|done|fail)));(focus ((omega);(first|done|fail))))
   |((with_reducible apply fA);(focus exact rfl);(focus exact rfl);(focus ((first|((with_reducible apply EI);(focus ((conv=>lhs;whnf);(first|done|fail))))|((with_reducible apply Hw);(focus ((conv=>lhs;whnf);(first|done|fail))))|((with_reducible apply HY);(focus exact rfl))|((with_reducible apply H6);(focus exact rfl);(focus exact rfl))|((with_reducible apply H7);(focus exact rfl);(focus exact rfl))|((with_reducible apply H8);(focus exact rfl);(focus exact rfl))|((with_reducible apply H9);(focus exact rfl);(focus exact rfl))|((with_reducible apply Ia);(focus exact rfl);(focus exact rfl))|((with_reducible apply Ib);(focus exact rfl);(focus exact rfl))|((with_reducible apply HV);(focus exact rfl))|((with_reducible apply Hy);(focus exact rfl);(focus ((conv=>lhs;whnf);(first|done|fail))))|((with_reducible apply Hz);(focus exact rfl);(focus ((conv=>lhs;whnf);(first|done|fail))))|((with_reducible apply Ie);(focus exact rfl);(focus ((conv=>lhs;whnf);(first|done|fail))))|((with_reducible apply Ig);(focus exact rfl))|((with_reducible apply Ih);(focus exact rfl);(focus ((conv=>lhs;whnf);(first|done|fail))))|((with_reducible apply Ii);(focus exact rfl);(focus ((conv=>lhs;whnf);(first|done|fail))))|((with_reducible apply Ij);(focus ((conv=>lhs;whnf);(first|done|fail))))|((with_reducible apply Ik);(focus exact rfl))|((with_reducible apply Il);(focus exact rfl))|((with_reducible apply Im);(focus exact rfl))|with_reducible exact HZ|((with_reducible apply Io);(focus exact rfl);(focus exact rfl);(focus exact rfl))|((with_reducible apply IB);(focus exact rfl);(focus exact rfl);(focus ((omega);(first|done|fail))))|((with_reducible apply EJ);(focus exact rfl);(focus exact rfl);(focus ((omega);(first|done|fail)));(focus ((omega);(first|done|fail))))|((with_reducible apply Ip);(focus exact rfl);(focus exact rfl);(focus ((omega);(first|done|fail)));(focus ((omega);(first|done|fail))))|((with_reducible apply Cw);(focus exact rfl);(focus exact rfl);(focus ((omega);(first|done|fail)));(focus ((omega);(first|done|fail))))|((with_reducible apply Ic);(focus exact rfl);(focus exact rfl);(focus ((omega);(first|done|fail)));(focus ((omega);(first|done|fail))))|((with_reducible apply Iu);(focus exact rfl);(focus exact rfl);(focus ((first|assumption|kernel_rfl);(first|done|fail))))|((with_reducible apply Iw);(focus exact rfl);(focus exact rfl);(focus ((first|assumption|kernel_rfl);(first|done|fail))))|((with_reducible apply Iy);(focus exact rfl);(focus exact rfl))|((with_reducible apply Iz);(focus exact rfl);(focus exact rfl))|((with_reducible apply IA);(focus exact rfl);(focus exact rfl);(focus ((omega);(first|done|fail)));(focus ((omega);(first|done|fail)))));(first|done|fail))))
   |((with_reducible apply acw);(focus exact rfl);(focus exact rfl);(focus (repeat (first|with_reducible exact EvL.nil|((with_reducible apply EvL.cons);(conv=>lhs;whnf)))));(focus (repeat (first|with_reducible exact EvL.nil|((with_reducible apply EvL.cons);(conv=>lhs;whnf))))))
   |((with_reducible apply acr);(focus exact rfl);(focus exact rfl);(focus (repeat (first|with_reducible exact Fill.nil|((with_reducible apply Fill.cons);(conv=>lhs;whnf);(conv=>lhs;whnf);(focus exact rfl);(conv=>lhs;whnf))))))
   |((with_reducible apply acs);(focus exact rfl);(focus exact rfl);(focus (repeat (first|with_reducible exact Fill.nil|((with_reducible apply Fill.cons);(conv=>lhs;whnf);(conv=>lhs;whnf);(focus exact rfl);(conv=>lhs;whnf))))))
   |((with_reducible apply acu);(focus exact rfl);(focus exact rfl);(focus ((conv=>lhs;whnf);(first|done|fail)));(focus ((conv=>lhs;whnf);(first|done|fail))))
   |((with_reducible apply abX);(focus exact rfl);(focus exact rfl))
   |((with_reducible apply ab1);(focus exact rfl);(focus exact rfl);(focus exact rfl);(focus ((repeat (first|with_reducible exact az.here|with_reducible apply az.there|with_reducible apply az.app));(first|done|fail)));(focus ((conv=>lhs;whnf);(first|done|fail))))
   |((with_reducible apply R9);(focus exact rfl);(focus exact rfl);(focus exact rfl);(focus ((repeat (first|with_reducible exact az.here|with_reducible apply az.there|with_reducible apply az.app));(first|done|fail)));(focus ((conv=>lhs;whnf);(first|done|fail))))
   |((with_reducible apply ab2);(focus exact rfl);(focus exact rfl);(focus exact rfl);(focus (((repeat (first|with_reducible exact cB .. |with_reducible apply cO));first|done|fail);(first|done|fail)));(focus ((conv=>lhs;whnf);(first|done|fail))))
   |((with_reducible apply ab3);(focus exact rfl);(focus exact rfl);(focus exact rfl);(focus (((repeat (first|with_reducible exact cB .. |with_reducible apply cO));first|done|fail);(first|done|fail)));(focus ((conv=>lhs;whnf);(first|done|fail))))
   |((with_reducible apply ab4);(focus exact rfl);(focus exact rfl);(focus exact rfl);(focus (((repeat (first|with_reducible exact cB .. |with_reducible apply cO));first|done|fail);(first|done|fail)));(focus ((conv=>lhs;whnf);(first|done|fail))))
   |((with_reducible apply Sa);(focus exact rfl);(focus exact rfl);(focus exact rfl);(focus (((repeat (first|with_reducible exact cB .. |with_reducible apply cO));first|done|fail);(first|done|fail)));(focus ((conv=>lhs;whnf);(first|done|fail))))
   |((with_reducible apply acv);(focus exact rfl);(focus exact rfl);(focus ((conv=>lhs;whnf);(first|done|fail)));(focus ((conv=>lhs;whnf);(first|done|fail)));(focus exact rfl);(focus ((repeat (first|with_reducible exact az.here|with_reducible apply az.there|with_reducible apply az.app));(first|done|fail)));(focus ((conv=>lhs;whnf);(first|done|fail))))
   |((with_reducible apply ab9);(focus exact rfl);(focus exact rfl);(focus ((conv=>lhs;whnf);(first|done|fail)));(focus (((repeat (first|with_reducible exact cB .. |with_reducible apply cO));first|done|fail);(first|done|fail))))
   |((with_reducible apply acd);(focus exact rfl);(focus exact rfl);(focus ((conv=>lhs;whnf);(first|done|fail)));(focus ((repeat (first|with_reducible exact az.here|with_reducible apply az.there|with_reducible apply az.app));(first|done|fail))))
   |((with_reducible apply acj (re:=_::_));(focus exact rfl);(focus exact rfl);(focus ((first|((with_reducible apply EI);(focus ((conv=>lhs;whnf);(first|done|fail))))|((with_reducible apply Hw);(focus ((conv=>lhs;whnf);(first|done|fail))))|((with_reducible apply HY);(focus exact rfl))|((with_reducible apply H6);(focus exact rfl);(focus exact rfl))|((with_reducible apply H7);(focus exact rfl);(focus exact rfl))|((with_reducible apply H8);(focus exact rfl);(focus exact rfl))|((with_reducible apply H9);(focus exact rfl);(focus exact rfl))|((with_reducible apply Ia);(focus exact rfl);(focus exact rfl))|((with_reducible apply Ib);(focus exact rfl);(focus exact rfl))|((with_reducible apply HV);(focus exact rfl))|((with_reducible apply Hy);(focus exact rfl);(focus ((conv=>lhs;whnf);(first|done|fail))))|((with_reducible apply Hz);(focus exact rfl);(focus ((conv=>lhs;whnf);(first|done|fail))))|((with_reducible apply Ie);(focus exact rfl);(focus ((conv=>lhs;whnf);(first|done|fail))))|((with_reducible apply Ig);(focus exact rfl))|((with_reducible apply Ih);(focus exact rfl);(focus ((conv=>lhs;whnf);(first|done|fail))))|((with_reducible apply Ii);(focus exact rfl);(focus ((conv=>lhs;whnf);(first|done|fail))))|((with_reducible apply Ij);(focus ((conv=>lhs;whnf);(first|done|fail))))|((with_reducible apply Ik);(focus exact rfl))|((with_reducible apply Il);(focus exact rfl))|((with_reducible apply Im);(focus exact rfl))|with_reducible exact HZ|((with_reducible apply Io);(focus exact rfl);(focus exact rfl);(focus exact rfl))|((with_reducible apply IB);(focus exact rfl);(focus exact rfl);(focus ((omega);(first|done|fail))))|((with_reducible apply EJ);(focus exact rfl);(focus exact rfl);(focus ((omega);(first|done|fail)));(focus ((omega);(first|done|fail))))|((with_reducible apply Ip);(focus exact rfl);(focus exact rfl);(focus ((omega);(first|done|fail)));(focus ((omega);(first|done|fail))))|((with_reducible apply Cw);(focus exact rfl);(focus exact rfl);(focus ((omega);(first|done|fail)));(focus ((omega);(first|done|fail))))|((with_reducible apply Ic);(focus exact rfl);(focus exact rfl);(focus ((omega);(first|done|fail)));(focus ((omega);(first|done|fail))))|((with_reducible apply Iu);(focus exact rfl);(focus exact rfl);(focus ((first|assumption|kernel_rfl);(first|done|fail))))|((with_reducible apply Iw);(focus exact rfl);(focus exact rfl);(focus ((first|assumption|kernel_rfl);(first|done|fail))))|((with_reducible apply Iy);(focus exact rfl);(focus exact rfl))|((with_reducible apply Iz);(focus exact rfl);(focus exact rfl))|((with_reducible apply IA);(focus exact rfl);(focus exact rfl);(focus ((omega);(first|done|fail)));(focus ((omega);(first|done|fail)))));(first|done|fail)));(focus ((repeat (first|exact yZ|refine AJ rfl (by repeat (first|with_reducible exact az.here|with_reducible apply az.there|with_reducible apply az.app)) (by first|exact rfl|(conv=>lhs;whnf)) rfl ?_|refine Cy rfl (by(repeat (first|with_reducible exact cB .. |with_reducible apply cO));first|done|fail) (by first|exact rfl|(conv=>lhs;whnf)) rfl ?_|refine EO rfl (by(repeat (first|with_reducible exact cB .. |with_reducible apply cO));first|done|fail) (by first|exact rfl|(conv=>lhs;whnf)) rfl ?_|refine EP rfl (by repeat (first|with_reducible exact az.here|with_reducible apply az.there|with_reducible apply az.app)) (by first|exact rfl|(conv=>lhs;whnf)) rfl ?_|refine EQ rfl (by(repeat (first|with_reducible exact cB .. |with_reducible apply cO));first|done|fail) (by first|exact rfl|(conv=>lhs;whnf)) rfl ?_|refine ER rfl (by(repeat (first|with_reducible exact cB .. |with_reducible apply cO));first|done|fail) (by first|exact rfl|(conv=>lhs;whnf)) rfl ?_));(first|done|fail))))
   |((with_reducible apply MG (re:=_::_));(focus exact rfl);(focus exact rfl);(focus ((conv=>lhs;whnf);(first|done|fail)));(focus ((conv=>lhs;whnf);(first|done|fail)));(focus exact rfl);(focus ((repeat (first|with_reducible exact az.here|with_reducible apply az.there|with_reducible apply az.app));(first|done|fail)));(focus ((conv=>lhs;whnf);(first|done|fail)));(focus ((repeat (first|exact yZ|refine AJ rfl (by repeat (first|with_reducible exact az.here|with_reducible apply az.there|with_reducible apply az.app)) (by first|exact rfl|(conv=>lhs;whnf)) rfl ?_|refine Cy rfl (by(repeat (first|with_reducible exact cB .. |with_reducible apply cO));first|done|fail) (by first|exact rfl|(conv=>lhs;whnf)) rfl ?_|refine EO rfl (by(repeat (first|with_reducible exact cB .. |with_reducible apply cO));first|done|fail) (by first|exact rfl|(conv=>lhs;whnf)) rfl ?_|refine EP rfl (by repeat (first|with_reducible exact az.here|with_reducible apply az.there|with_reducible apply az.app)) (by first|exact rfl|(conv=>lhs;whnf)) rfl ?_|refine EQ rfl (by(repeat (first|with_reducible exact cB .. |with_reducible apply cO));first|done|fail) (by first|exact rfl|(conv=>lhs;whnf)) rfl ?_|refine ER rfl (by(repeat (first|with_reducible exact cB .. |with_reducible apply cO));first|done|fail) (by first|exact rfl|(conv=>lhs;whnf)) rfl ?_));(first|done|fail))))
   |fail)
  |((with_reducible apply dQ.all);intro _)
  |with_reducible apply dQ.imp)
 with_reducible exact dQ.refl _):G:=r.h x
theorem mR{B:List Nat}{w0:Wd}{kl:List OA}{F:List aO}{K:KO}{c:dI}{a:aV}(r:R (λh=>EV P c a h (yU P (.loop c) K)) B w0 kl F):R (λh=>EV P (.loop c) a h K) B w0 kl F:=λw s=>
 .loop _ (r w s) (λ_ _ hm=>hm) (λo a' h' hm hn=>by
  cases o with
  |normal=>exact absurd rfl hn
  |_=>exact hm)
theorem lT.sub{α:Type}{F0:List α}:∀{F:List α},lT F0 F->Sub F0 F:=λ{F} h=>by
 have:∀k:List α,(∀x∈k,x∈F)->Sub k F:=by
  intro k;induction k with
  |nil=>intro _;exact .nil
  |cons a k ih=>intro hk;exact .cons (hk a (cB ..)) (ih λx hx=>hk x (cO _ hx))
 exact this F0 h.mem
inductive bS{α:Type}:List α->List α->List α->Prop
 |nil {l:List α}:bS [] l l
 |cons {a:α} {k l m:List α} (h:bS k l m):bS (a::k) l (a::m)
 |self {k:List α}:bS k [] k
 |app {k l:List α}:bS k l (k++l)
theorem bS.eq{α:Type}:∀{k l m:List α},bS k l m->k++l=m
 |_,_,_,.nil=>rfl
 |_,_,_,.self=>gU _
 |_,_,_,.app=>rfl
 |_,_,_,.cons h=>by rw[fV,h.eq]
section
variable {B:List Nat} {w0:Wd} {kl kl' bH:List OA} {F:List aO} {K:KO} {ds:List Tmp} {rest:List bV} {n:Nat} {l:List (Nat×Value)} {D:List Deferred} {pm:Option FrameMode} {ro:Option Nat} {d:Nat} {g:Option (Tmp×Bool)}
theorem ay{Y:Type}{f:Operand}{xs:List Operand}{re:List iq}{fn:Fn}{first captured vs as:List Value}{k1:List OA}{F1:List aO}{val:Y->Value}{k1':Y->List OA}{fs:Y->List aO}{pr:Y->Prop}{fu:Y->List OA}{F2:Y->List aO}
 (hc:bA P fn as captured k1 F1 val k1' fs pr) (hn:Nat.blt d n=true:=by rfl) (hg:cZ l g=true:=by rfl) (hf:ev l f=.func fn ⟨first⟩ ⟨captured⟩:=by rfl) (hx:EvL (ev l) xs vs:=by repeat (first|with_reducible exact EvL.nil|((with_reducible apply EvL.cons);(conv=>lhs;whnf)))) (ha:first++vs=as:=by rfl)
 (hk:aI k1 kl bH:=by exact pg) (hF:Sub F1 F:=by exact o9)
 (hak:∀y,bS (k1' y) bH (fu y):=by intro y;repeat (first|exact bS.nil|apply bS.cons|exact bS.self|exact bS.app)) (CB:∀y,bS (fs y) F (F2 y):=by intro y;repeat (first|exact bS.nil|apply bS.cons|exact bS.self|exact bS.app))
 (hs:∀y,pr y->Same P re (ev ((d,val y)::l)) ((d,val y)::l) B w0 (fu y) (F2 y):=by intro _ _;repeat (first|exact yZ|refine AJ rfl (by repeat (first|with_reducible exact az.here|with_reducible apply az.there|with_reducible apply az.app)) (by first|exact rfl|(conv=>lhs;whnf)) rfl ?_|refine Cy rfl (by(repeat (first|with_reducible exact cB .. |with_reducible apply cO));first|done|fail) (by first|exact rfl|(conv=>lhs;whnf)) rfl ?_|refine EO rfl (by(repeat (first|with_reducible exact cB .. |with_reducible apply cO));first|done|fail) (by first|exact rfl|(conv=>lhs;whnf)) rfl ?_|refine EP rfl (by repeat (first|with_reducible exact az.here|with_reducible apply az.there|with_reducible apply az.app)) (by first|exact rfl|(conv=>lhs;whnf)) rfl ?_|refine EQ rfl (by(repeat (first|with_reducible exact cB .. |with_reducible apply cO));first|done|fail) (by first|exact rfl|(conv=>lhs;whnf)) rfl ?_|refine ER rfl (by(repeat (first|with_reducible exact cB .. |with_reducible apply cO));first|done|fail) (by first|exact rfl|(conv=>lhs;whnf)) rfl ?_|refine MF (by first|((with_reducible apply EI);(focus ((conv=>lhs;whnf);(first|done|fail))))|((with_reducible apply Hw);(focus ((conv=>lhs;whnf);(first|done|fail))))|((with_reducible apply HY);(focus exact rfl))|((with_reducible apply H6);(focus exact rfl);(focus exact rfl))|((with_reducible apply H7);(focus exact rfl);(focus exact rfl))|((with_reducible apply H8);(focus exact rfl);(focus exact rfl))|((with_reducible apply H9);(focus exact rfl);(focus exact rfl))|((with_reducible apply Ia);(focus exact rfl);(focus exact rfl))|((with_reducible apply Ib);(focus exact rfl);(focus exact rfl))|((with_reducible apply HV);(focus exact rfl))|((with_reducible apply Hy);(focus exact rfl);(focus ((conv=>lhs;whnf);(first|done|fail))))|((with_reducible apply Hz);(focus exact rfl);(focus ((conv=>lhs;whnf);(first|done|fail))))|((with_reducible apply Ie);(focus exact rfl);(focus ((conv=>lhs;whnf);(first|done|fail))))|((with_reducible apply Ig);(focus exact rfl))|((with_reducible apply Ih);(focus exact rfl);(focus ((conv=>lhs;whnf);(first|done|fail))))|((with_reducible apply Ii);(focus exact rfl);(focus ((conv=>lhs;whnf);(first|done|fail))))|((with_reducible apply Ij);(focus ((conv=>lhs;whnf);(first|done|fail))))|((with_reducible apply Ik);(focus exact rfl))|((with_reducible apply Il);(focus exact rfl))|((with_reducible apply Im);(focus exact rfl))|with_reducible exact HZ|((with_reducible apply Io);(focus exact rfl);(focus exact rfl);(focus exact rfl))|((with_reducible apply IB);(focus exact rfl);(focus exact rfl);(focus ((omega);(first|done|fail))))|((with_reducible apply EJ);(focus exact rfl);(focus exact rfl);(focus ((omega);(first|done|fail)));(focus ((omega);(first|done|fail))))|((with_reducible apply Ip);(focus exact rfl);(focus exact rfl);(focus ((omega);(first|done|fail)));(focus ((omega);(first|done|fail))))|((with_reducible apply Cw);(focus exact rfl);(focus exact rfl);(focus ((omega);(first|done|fail)));(focus ((omega);(first|done|fail))))|((with_reducible apply Ic);(focus exact rfl);(focus exact rfl);(focus ((omega);(first|done|fail)));(focus ((omega);(first|done|fail))))|((with_reducible apply Iu);(focus exact rfl);(focus exact rfl);(focus ((first|assumption|kernel_rfl);(first|done|fail))))|((with_reducible apply Iw);(focus exact rfl);(focus exact rfl);(focus ((first|assumption|kernel_rfl);(first|done|fail))))|((with_reducible apply Iy);(focus exact rfl);(focus exact rfl))|((with_reducible apply Iz);(focus exact rfl);(focus exact rfl))|((with_reducible apply IA);(focus exact rfl);(focus exact rfl);(focus ((omega);(first|done|fail)));(focus ((omega);(first|done|fail))))) rfl ?_))
 (next:∀y,pr y->R (λh=>aH P ds rest (act n ((d,val y)::l) D pm ro) h K) B w0 (fu y) (F2 y)):
 R (λh=>aH P ds (⟨⟨some d,g,.call f xs⟩,re⟩::rest) (act n l D pm ro) h K) B w0 kl F:=
 ack hc hn hg hf hx ha hk hF (λy hy=>by rw[(hak y).eq,(CB y).eq];exact hs y hy) (λy hy=>by rw[(hak y).eq,(CB y).eq];exact next y hy)
abbrev dD(P:Program)(f:FuncId)(args:List Value)(F:List aO)(v:Value):Prop:=bA P (.func f) args [] [] F (λ_:Unit=>v) (λ_=>[]) (λ_=>[]) (λ_=>True)
abbrev FnS{α:Type}(P:Program)(f:FuncId)(args:List Value)(F:List aO)(E:Enc α)(ys:List α):Prop:=bA P (.func f) args [] [] F (λv:Value=>v) (λ_=>[]) (λv=>[ai E v ys]) (λ_=>True)
theorem aM{Y:Type}{f:FuncId}{args cap:List Value}{kl:List OA}{F:List aO}{val:Y->Value}{kl':Y->List OA}{fs:Y->List aO}{pr:Y->Prop}{c:dI}{m:Nat}{l0:List (Nat×Value)}(cf:gV)(hF:(pX P qC pY).F f=some cf)
 (hb:∀B w0,R (λh=>EV P c (act m l0 [] none none) h (Cs cf (Left B w0 val kl' fs pr))) B w0 kl F)
 (h1:cf.body=c:=by conv=>lhs;(reduce;(try simp only[Int.reduceOfNat,Int.reduceNegSucc]))) (h2:rD cf.ntmps (iL (args++cap))=m:=by conv=>lhs;whnf) (h3:qg 0 (args++cap) []=l0:=by dsimp only[qg,Nat.reduceAdd,List.append_nil,List.cons_append,List.nil_append]):bA P (.func f) args cap kl F val kl' fs pr:=
 ach cf hF (by rw[h1,h2,h3];exact hb)
theorem bi{α:Type}(E:Enc α){x i:Operand}{v:Value}{xs:List α}{size:Nat}{k:Nat}{kk:IntKind}{F2:α->E.Y->List aO}(hn:Nat.blt d n=true:=by rfl)(hg:cZ l g=true:=by rfl)(hx:ev l x=v:=by conv=>lhs;whnf)(hi:ev l i=.int kk (k:Int):=by rfl)
 (hf:ai E v xs∈F:=by exact vW) (hs:E.n=size:=by rfl) (h1:k<xs.length:=by omega)
 (ha:∀z y,bS (E.fs z y) F (F2 z y):=by intro z y;repeat (first|exact bS.nil|apply bS.cons|exact bS.self|exact bS.app))
 (next:∀b o z y,xs[k]? =some z->R (λh=>aH P ds rest (act n ((d,.pointer (some ⟨b,o,none⟩))::l) D pm ro) h K) B w0 kl (gY b o (E.pat z y)::F2 z y)):
 R (λh=>aH P ds (⟨⟨some d,g,.nQ size x i⟩,[]⟩::rest) (act n l D pm ro) h K) B w0 kl F:=
 (MB hn hg hx hi hf hs (by omega) (by omega)).h λb o z y hz=>by rw[(ha z y).eq];exact next b o z y (by simpa using hz)
theorem ah{Y:Type}{o:Out}{cf:gV}{vs:List Value}{val:Y->Value}{k1:Y->List OA}{fs:Y->List aO}{pr:Y->Prop}(y:Y)
 (hr:RS l kl cf.results vs:=by exact Cz) (hv:rO vs=val y:=by rfl) (hp:pr y)
 (hk:aI (k1 y) kl bH:=by exact pg) (hF:Sub (fs y) F:=by exact o9)
 (ho:o=.normal\/o=.ret:=by first|exact .inl rfl|exact .inr rfl):R (λh=>Cs cf (Left B w0 val k1 fs pr) o (act n l [] none ro) h) B w0 kl F:=
 Sl y hr hv hp hk hF ho
theorem bn{A:OA}{fs F2:List aO}{Q:IH->Prop}(hA:rH A fs)(hk:az A kl kl':=by exact gN)(ha:bS fs F F2:=by repeat (first|exact bS.nil|apply bS.cons|exact bS.self|exact bS.app))(h:R Q B w0 kl' F2):R Q B w0 kl F:=
 ace hA hk (by rw[ha.eq];exact h)
theorem aU{X:Type}{c:dI}{l0:List (Nat×Value)}{L2:X->List (Nat×Value)}{ES:X->List OA}{ET:X->List aO}(m:X->Nat)(L:X->List (Nat×Value))(KL:X->List OA)(FF:X->List aO)(inv:X->Prop)(x0:X)(hi:inv x0)
 (h0:rP l (L x0) l0:=by repeat (first|exact rP.nil|(apply rP.drop;(focus exact rfl))|(apply rP.keep;(focus exact rfl)))) (hl:sub (L x0++l0) l:=by repeat (first|exact trivial|refine⟨rfl,?_⟩))
 (hk:aI (KL x0) kl bH:=by exact pg) (hF:Sub (FF x0) F:=by exact o9)
 (hak:∀x,bS (KL x) bH (ES x):=by intro y;repeat (first|exact bS.nil|apply bS.cons|exact bS.self|exact bS.app)) (CB:∀x,bS (FF x) F (ET x):=by intro y;repeat (first|exact bS.nil|apply bS.cons|exact bS.self|exact bS.app))
 (hal:∀x,bS (L x) l0 (L2 x):=by intro y;repeat (first|exact bS.nil|apply bS.cons|exact bS.self|exact bS.app))
 (body:∀x,inv x->R (λh=>EV P c (act n (L2 x) D pm ro) h (xE (LI n D pm ro B w0 m L KL FF inv l0 bH F) (m x) K)) B w0 (ES x) (ET x)):
 R (λh=>EV P (.loop c) (act n l D pm ro) h K) B w0 kl F:=
 acm m L KL FF inv x0 hi l0 hl hk hF λx hx=>by rw[(hak x).eq,(CB x).eq,(hal x).eq];exact body x hx
theorem aN{X:Type}{m:X->Nat}{L:X->List (Nat×Value)}{KL:X->List OA}{FF:X->List aO}{inv:X->Prop}{l0:List (Nat×Value)}{EU fu:List OA}{F0:List aO}{m0:Nat}(x:X)(hm:m x<m0)(hi:inv x)
 (hl:sub (L x++l0) l:=by repeat (first|exact trivial|refine⟨rfl,?_⟩)) (ha:bS (KL x) bH EU:=by repeat (first|exact bS.nil|apply bS.cons|exact bS.self|exact bS.app))
 (hk:aI EU kl fu:=by exact pg) (hF:Sub (FF x) F:=by exact o9)
 (Az:lT F0 F:=by repeat (first|exact lT.here|apply lT.cons|apply lT.app)):
 R (λh=>xE (LI n D pm ro B w0 m L KL FF inv l0 bH F0) m0 K .normal (act n l D pm ro) h) B w0 kl F:=
 acn x hm hi hl (by rw[ha.eq];exact hk) hF Az
end
end Go.Ideal
namespace Go.Ideal
class CE (e:Bool) (f t:outParam Prop):Prop where
 no:e=false->f
 yes:e=true->t
instance (priority:=low) akn {e:Bool}:CE e (e=false) (e=true):=⟨id,id⟩
instance ako {p:Prop} {_:Decidable p}:CE (decide p) (¬p) p:=⟨nC,iI⟩
instance akp {p:Prop} {_:Decidable p}:CE (!decide p) p (¬p):=⟨λe=>by simpa using e,λe=>by simpa using e⟩
section
variable {P:Program}
variable {B:List Nat} {w0:Wd} {kl:List OA} {F:List aO} {K:KO} {ds:List Tmp} {rest:List bV} {n:Nat} {l:List (Nat×Value)} {D:List Deferred} {pm:Option FrameMode} {ro:Option Nat} {t1 t2:Nat}
theorem gG{e:Bool}{f t:Prop}[CE e f t](h1:f->R (λh=>aH P ds rest (act n ((t1,.bool false)::(t2,.bool false)::l) D pm ro) h K) B w0 kl F)(h2:t->R (λh=>aH P ds rest (act n ((t1,.bool true)::(t2,.bool true)::l) D pm ro) h K) B w0 kl F):
 R (λh=>aH P ds rest (act n ((t1,.bool e)::(t2,.bool e)::l) D pm ro) h K) B w0 kl F:=
 lU (λx=>h1 (CE.no x)) (λx=>h2 (CE.yes x))
end
section
instance akq {n:Nat}:OfNat Operand n:=⟨.tmp n⟩
abbrev kI(n:Int):Operand:=.const (.int .i64 n)
abbrev vI:Value:=.int .i64 0
abbrev vS:Value:=.slice none 0 0
abbrev vE:Value:=.string ⟨⟨[]⟩⟩
abbrev kC(f:Nat)(l:List Operand):aF:=.call (.func f) l
abbrev kS(n:Nat)(e:aF):bV:=⟨⟨some n,none,e⟩,[]⟩
abbrev kN(e:aF):bV:=⟨⟨none,none,e⟩,[]⟩
abbrev kM(n:Nat)(x:Operand):bV:=kS n (.mv x)
abbrev kO(l:List bV):dI:=.ops (l.filterMap λx=>x.s.dst) l
end
end Go.Ideal
namespace Go.Ideal
noncomputable def MH(l:List (Nat×dN))(n:Nat)(fn:Nat)(args:List Value)(v:Value):gM->IH->Option (Value×IH):=λq h=>
 match q with
 |⟨.func f,as,[],none⟩=>match h with
  |⟨.leaf,0,0⟩=>cond (Nat.beq f fn&&ou 5 (.tuple ⟨args⟩) (.tuple ⟨as⟩)) (some (v,⟨heapT l,n,0⟩)) none
  |_=>none
 |_=>none
theorem acz{P:Program}{l:List (Nat×dN)}{n fn:Nat}{args:List Value}{v:Value}(hc:CALL P ⟨.func fn,args,[],none⟩ ⟨.leaf,0,0⟩ (λr pm h'=>leaves l n v r pm h'=true))
 {q:gM} {h:IH} {v':Value} {h':IH} (hk:MH l n fn args v q h=some (v',h')):CALL P q h (λr pm h2=>r=.ok v'/\pm=none/\h2=h'):=by
 unfold MH at hk;split at hk
 ·rename_i f as;split at hk
  ·cases hcd:(Nat.beq f fn&&ou 5 (.tuple ⟨args⟩) (.tuple ⟨as⟩))with
   |false=>rw[hcd]at hk;cases hk
   |true=>
    rw[hcd]at hk;simp only[cond,aD,di]at hk;obtain⟨rfl,rfl⟩:=hk;simp only[fe]at hcd;have h1:=kR hcd.1;subst h1;have h2:=yS _ _ _ hcd.2;injection h2 with h2;injection h2 with h2;subst h2;refine .forget _ hc ?_;intro r pm h' hl;unfold leaves at hl;split at hl
    ·cases hl
    ·split at hl
     ·rename_i v';simp only[fe]at hl;obtain⟨⟨⟨h1,h2⟩,h3⟩,h4⟩:=hl;refine⟨⟨heapT l,n,0⟩,(kR h2).symm,(kR h3).symm,?_,?_,rfl,rfl⟩
      ·intro i;rcases Mc l i with e|⟨o,e1,e2⟩
       ·exact .inr ⟨bR _,e⟩
       ·left;exact e2.trans (RG h4 i o e1).symm
      ·rw[yS _ _ _ h1]
     ·cases hl
  ·cases hk
 ·cases hk
theorem acA{P:Program}{f:FuncId}{v:Value}(hs:∀h,CALL P ⟨.func f,[],[],none⟩ h (λr pm h'=>pm=none/\r=.ok v/\h'=h)):dD P f [] [] v:=λB w s=>
 .vT _ (hs w.h) (by rintro r pm h' ⟨rfl,rfl,rfl⟩;exact⟨rfl,w,(),rfl,s,rfl,trivial⟩)
noncomputable def IC(L:Lay):Wd:=⟨ku L,λi=>i<(ku L).next,λ_ h=>h⟩
end Go.Ideal
namespace Go.Ideal
open Go.ChangeShapes Go.WideShapes Go.ChangeAt Go.RowKit
variable {P:Program}
def CF{α:Type}(P:Program)(t:TypeId)(E:Enc α):Prop:=∀(w:Wd) (H:Type) (d:DataW H) (cs:List Value),(∀i,i<w.h.next->w.z i)->iw P w.h t cs d->∃a y,cs=E.pat a y/\∀f∈E.fs a y,f.p w
theorem IE{α:Type}{p:Nat->α->Prop}:∀n,(∀k,k<n->∃a,p k a)->∃l:List α,l.length=n/\∀(k:Nat) a,l[k]? =some a->p k a
 |0,_=>⟨[],rfl,λk a h=>by cases h⟩
 |n+1,h=>by
  obtain⟨l,h1,h2⟩:=IE n (λk hk=>h k (by omega));obtain⟨a,ha⟩:=h n (by omega);refine⟨l++[a],by simp[h1],λk b hb=>?_⟩;by_cases hk:k<l.length
  ·rw[qp hk]at hb;exact h2 k b hb
  ·rw[pR (by omega)]at hb;have hk0:k=n:=by have:=(bq.1 hb).1;simp at this;omega
   subst hk0;rw[h1]at hb;simp at hb;subst hb;exact ha
def Sm{α β:Type}(E1:Enc α)(E2:Enc β):Enc (α×β):=⟨E1.n+E2.n,E1.Y×E2.Y,λa y=>E1.pat a.1 y.1++E2.pat a.2 y.2,λa y=>E1.fs a.1 y.1++E2.fs a.2 y.2,λa y=>by rw[iH,E1.len,E2.len]⟩
def Sn:Enc Unit:=⟨0,Unit,λ_ _=>[],λ_ _=>[],λ_ _=>rfl⟩
inductive CG(P:Program):{α:Type}->List Field->Enc α->Prop
 |nil:CG P [] Sn
 |cons {α β:Type} {f:Field} {fs:List Field} {E1:Enc α} {E2:Enc β} (h:CF P f.type E1) (hn:P.cellsOf f.type=E1.n) (t:CG P fs E2):CG P (f::fs) (Sm E1 E2)
theorem CG.IG{w:Wd}{H:Type}(hz:∀i,i<w.h.next->w.z i):∀{α:Type} {fs:List Field} {E:Enc α},CG P fs E->∀(o0:Nat) (cs:List Value) (ds:List (DataW H)),cs.length=(fs.map λf=>P.cellsOf f.type).sum->ds.length=fs.length->
 fs.map (·.offset)=sums o0 (fs.map λf=>P.cellsOf f.type)->(∀(j:Nat) f d,fs[j]? =some f->ds[j]? =some d->iw P w.h f.type ((cs.drop (f.offset - o0)).take (P.cellsOf f.type)) d)->∃a y,cs=E.pat a y/\∀f∈E.fs a y,f.p w
 |_,_,_,.nil,o0,cs,ds,h1,h2,h3,h4=>⟨(),(),jy.1 (by simpa using h1),λf hf=>by cases hf⟩
 |_,_,_,.cons (f:=f) (fs:=fs) (E1:=E1) (E2:=E2) h hn t,o0,cs,ds,h1,h2,h3,h4=>by
  match ds,h2 with
  |d::ds,h2=>
   simp only[gL,List.sum_cons,sums,zR]at h1 h3;obtain⟨ho,h3⟩:=h3;have r0:=h4 0 f d rfl rfl;rw[ho,vK,DC]at r0;obtain⟨a,y,q1,q2⟩:=h w H d _ hz r0;obtain⟨b,z,u1,u2⟩:=CG.IG hz t (o0+P.cellsOf f.type) (cs.drop (P.cellsOf f.type)) ds (by rw[sO];omega) (by simpa using h2) h3 (λj g e hg he=>by
    have:=h4 (j+1) g e hg he;rw[List.drop_drop];have hle:o0+P.cellsOf f.type<=g.offset:=by
     have hj:(fs.map (·.offset))[j]? =some g.offset:=by rw[dm,hg];rfl
     rw[h3]at hj;have hs:(fs.map λf=>P.cellsOf f.type)[j]? =some (P.cellsOf g.type):=by rw[dm,hg];rfl
     exact(yV _ ([]:List Value) (o0+P.cellsOf f.type) j _ _ hj hs).2
    rw[show P.cellsOf f.type+(g.offset - (o0+P.cellsOf f.type))=g.offset - o0 by omega];exact this)
   refine⟨(a,b),(y,z),?_,?_⟩
   ·show cs=E1.pat a y++E2.pat b z;rw[<- q1,<- u1,uq]
   ·intro g hg;rcases dX.1 hg with hg|hg
    ·exact q2 g hg
    ·exact u2 g hg
theorem CF.conv{α β:Type}{t:TypeId}{E:Enc α}{E':Enc β}(h:CF P t E)(hc:∀a y,∃b z,E.pat a y=E'.pat b z/\E.fs a y=E'.fs b z):CF P t E':=λw H d cs hz r=>by
 obtain⟨a,y,q1,q2⟩:=h w H d cs hz r;obtain⟨b,z,e1,e2⟩:=hc a y;exact⟨b,z,by rw[q1,e1],λf hf=>q2 f (by rw[e2];exact hf)⟩
section
variable {H:Type} {enc:TypeId×Value->H} {W:World} {K:TypeId->Prop}
def vX(P:Program)(w:Wd)(t:TypeId)(v:Value){H:Type}(d:DataW H):Prop:=∃cs,iw P w.h t cs d/\((jC P t=true/\v=.agg ⟨cs⟩)\/(jC P t=false/\cs=[v]))
theorem vX.agg{α:Type}{w:Wd}{t:TypeId}{v:Value}{d:DataW H}{E:Enc α}(h:vX P w t v d)(hz:∀i,i<w.h.next->w.z i)(ha:jC P t=true)(hr:CF P t E):∃a y,v=.agg ⟨E.pat a y⟩/\∀f∈E.fs a y,f.p w:=by
 obtain⟨cs,r,⟨_,e⟩|⟨e,_⟩⟩:=h
 ·obtain⟨a,y,rfl,q⟩:=hr w H d cs hz r;exact⟨a,y,e,q⟩
 ·rw[ha]at e;cases e
theorem vX.one{α:Type}{w:Wd}{t:TypeId}{v:Value}{d:DataW H}{E:Enc α}(h:vX P w t v d)(hz:∀i,i<w.h.next->w.z i)(ha:jC P t=false)(hr:CF P t E):∃a y,E.pat a y=[v]/\∀f∈E.fs a y,f.p w:=by
 obtain⟨cs,r,⟨e,_⟩|⟨_,e⟩⟩:=h
 ·rw[ha]at e;cases e
 ·obtain⟨a,y,q0,q⟩:=hr w H d cs hz r;exact⟨a,y,by rw[<- q0,e],q⟩
theorem acB{L:Lay}{t:TypeId}{v v0:Value}{d:DataW H}{w:Wd}(hw:w.h=ku L)(r:yY P (ku L) t v d)(hv:VR (jY L) v v0)(hok:Value.okWide P W .any 0 t v0):vX P w t v d:=by
 obtain⟨cs,r1,h2,h3⟩:=r;refine⟨cs,by rw[hw];exact r1,?_⟩;cases ha:jC P t with
 |true=>
  left;refine⟨rfl,?_⟩;rcases h3 with e|e
  ·subst e;have hagg:∃c,v0=.agg c:=by
    unfold jC at ha;unfold Value.okWide at hok;split at ha
    ·rename_i fs hu;rw[hu]at hok;obtain⟨c,e,_⟩:=hok;exact⟨c,e⟩
    ·rename_i n e hu;rw[hu]at hok;obtain⟨c,e,_⟩:=hok;exact⟨c,e⟩
    ·cases ha
   obtain⟨c,rfl⟩:=hagg
   exfalso
   cases hv<;>simp[cellV]at h2
  ·exact e
 |false=>
  right;refine⟨rfl,?_⟩;rcases h3 with e|e
  ·exact e
  ·subst e
   exfalso
   cases hv with
   |agg hc hl=>
    cases hu:P.underlying t with
    |none=>simp[Value.okWide,Cell.okWide,Cell.ok,hu]at hok
    |some d=>cases d<;>simp[Value.okWide,Cell.okWide,Cell.ok,jC,hu]at hok ha
theorem acC{ts:List TypeId}{vs' vs:List Value}{L:Lay}(hv:aW (jY L) vs' vs):∀(j:Nat) v',vs'[j]? =some v'->∃v,vs[j]? =some v/\VR (jY L) v' v:=by
 intro j;induction j generalizing vs' vs with
 |zero=>
  intro v' h;cases hv with
  |nil=>cases h
  |cons h1 h2=>cases h;exact⟨_,rfl,h1⟩
 |succ j ih=>
  intro v' h;cases hv with
  |nil=>cases h
  |cons h1 h2=>exact ih h2 v' h
theorem MI{a:Nat}{b:Nat->Bool}{c:Bool}:∀{ts:List TypeId} {vs:List Value} {ds:List (DataW H)} {ps:List MemPlace},DataW.TrodAll enc P W a b c ts vs ds ps->vs.length=ts.length/\ds.length=ts.length
 |[],[],[],_,_=>⟨rfl,rfl⟩
 |_::_,_::_,_::_,_,⟨_,_,_,h,_⟩=>by
  have:=MI h;simp[this.1,this.2]
theorem Sq{α:Type}{l:List α}(h:l.length=3):∃a b c,l=[a,b,c]:=by
 match l,h with
 |[a,b,c],_=>exact⟨a,b,c,rfl⟩
theorem Sr{α:Type}{l:List α}(h:l.length=4):∃a b c d,l=[a,b,c,d]:=by
 match l,h with
 |[a,b,c,d],_=>exact⟨a,b,c,d,rfl⟩
theorem Su(Aq:P.follows .mixedOrders=true)(hgl:P.globals.size=0){f:FuncId}(fn:Func)(hfn:P.funcs[f]? =some fn)(hbody:fn.body.isNone=false)(hname:(fn.name== "runtime.NumGoroutine")=false)
 (hK:∀t,K t->PlainT P K t) {ts:List TypeId} {vs:List Value} {ds:List (DataW H)} {ps:List MemPlace} (hT:∀t∈ts,K t) (hok:∀(j:Nat) t v,ts[j]? =some t->vs[j]? =some v->Value.okWide P W .any 0 t v)
 (hA:DataW.TrodAll enc P W 0 (λ_=>true) true ts vs ds ps)
 (acD:∀(w:Wd) (vs':List Value),(∀i,i<w.h.next->w.z i)->vs'.length=vs.length->(∀(j:Nat) t v d,ts[j]? =some t->vs'[j]? =some v->ds[j]? =some d->vX P w t v d)->∃F,(∀f∈F,f.p w)/\dD P f vs' F (.bool true)):
 Calls P f ⟨vs⟩ W (λe w'=>e=.returned (.bool true)/\Below W.heap.size W w'):=by
 obtain⟨M,vs',h1,h2,h3⟩:=R5 hK hT hok hA [];rw[dY]at h1 h2;refine abm Aq hgl fn hfn hbody hname (L:=M) (args:=vs') (λi g cs hi=>h3 i g cs (bR _) (by simpa using hi)|>λq=>by simpa using q) h1 rfl ?_;have hlen:vs'.length=vs.length:=by
  have:∀{a b:List Value},aW (jY M) a b->a.length=b.length:=by
   intro a;induction a with
   |nil=>intro b h;cases h;rfl
   |cons x a ih=>intro b h;cases h with|cons q r=>simp[ih r]
  exact this h1
 obtain⟨F,hF,hfn'⟩:=acD (IC M) vs' (λi hi=>hi) hlen (λj t v d ht hv hd=>by
  obtain⟨v0,e,rF⟩:=acC (ts:=ts) h1 j v hv;exact acB rfl (h2 j t v d ht hv hd) rF (hok j t v0 ht e))
 have st:St [] (IC M) [] F (IC M):=⟨⟨bT _,λ_ _ _=>rfl,λ_ _=>rfl⟩,Wd.Le.refl _,λi _ hz=>.inl hz,⟨[],rfl,yE,λi hi=>by cases hi⟩,hF⟩
 refine .vT _ (hfn' [] (IC M) st) ?_;rintro r pm h' ⟨rfl,w',y,rfl,s,rfl,_⟩;exact⟨rfl,rfl,⟨s.agree.next,λi hi=>s.agree.get i hi (by simp),λhl=>s.agree.low hl (by simp)⟩⟩
end
