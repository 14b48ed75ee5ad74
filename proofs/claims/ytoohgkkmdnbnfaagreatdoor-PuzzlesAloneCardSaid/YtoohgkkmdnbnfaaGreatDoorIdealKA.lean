/-
  The ideal machine, 53: the road through what needs no thought; lists put in order.
-/
import Derived.Test.YtoohgkkmdnbnfaaGreatDoorIdealJA
import Derived.Test.YtoohgkkmdnbnfaaGreatDoorIdealIA
set_option linter.all false
namespace Go.Ideal
theorem lJ{p:Prop}(h:p:=by repeat (first|exact Sub.nil|(apply Sub.cons;(focus ((repeat (first|with_reducible exact cZ .. |with_reducible apply cO));first|done|fail)))|exact jT.sub (by repeat (first|with_reducible exact jT.here|with_reducible apply jT.cons|with_reducible apply jT.app)))):p:=h
theorem l8{p:Prop}(h:p:=by repeat (first|exact aI.nil|(apply aI.cons;(focus (repeat (first|with_reducible exact ay.here|with_reducible apply ay.there|with_reducible apply ay.app))))|with_reducible exact aI.all _|with_reducible exact aI.self _ _|with_reducible apply aI.there)):p:=h
theorem gD{p:Prop}(h:p:=by repeat (first|with_reducible exact ay.here|with_reducible apply ay.there|with_reducible apply ay.app)):p:=h
theorem zJ{p:Prop}(h:p:=by repeat (first|exact RS.nil|(apply RS.tmp;(conv=>lhs;whnf))|(apply RS.cell1;(focus exact rfl);(focus (repeat (first|with_reducible exact ay.here|with_reducible apply ay.there|with_reducible apply ay.app)));(conv=>lhs;whnf))|(apply RS.pM;(focus exact rfl);(focus (repeat (first|with_reducible exact ay.here|with_reducible apply ay.there|with_reducible apply ay.app)));(conv=>lhs;whnf)))):p:=h
theorem qI{p:Prop}(h:p:=by(repeat (first|with_reducible exact cZ .. |with_reducible apply cO));first|done|fail):p:=h
variable {P:Program}
section
variable {B:List Nat} {w0:Wd} {kl:List OA} {F:List aH} {K:KO} {ds:List Tmp} {rest:List bT} {n:Nat} {l:List (Nat×Value)} {D:List Deferred} {pm:Option FrameMode} {ro:Option Nat} {d:Nat} {g:Option (Tmp×Bool)}
theorem aa1{x i:Operand}{v:Value}{xs:List Int}{k:Nat}{kk:IntKind}(hn:Nat.blt d n=true)(hg:bU l g=true)(hx:ev l x=v)(hi:ev l i=.int kk (k:Int))(hf:ah aa v xs∈F)(h1:k<xs.length):
 dL (R (λh=>aF P ds (⟨⟨some d,g,.lY 1 x i⟩,[]⟩::rest) (act n l D pm ro) h K) B w0 kl F)
  (∀b o z,xs[k]? =some z->R (λh=>aF P ds rest (act n ((d,.pointer (some ⟨b,o,none⟩))::l) D pm ro) h K) B w0 kl (eG b o [.int .i64 z]::F)):=
 ⟨λr=>(QU hn hg hx hi hf (by omega) (by omega)).h λb o z hz=>r b o z (by simpa using hz)⟩
theorem aa2{x i:Operand}{v:Value}{xs:List Bool}{k:Nat}{kk:IntKind}(hn:Nat.blt d n=true)(hg:bU l g=true)(hx:ev l x=v)(hi:ev l i=.int kk (k:Int))(hf:ah QR v xs∈F)(h1:k<xs.length):
 dL (R (λh=>aF P ds (⟨⟨some d,g,.lY 1 x i⟩,[]⟩::rest) (act n l D pm ro) h K) B w0 kl F)
  (∀b o z,xs[k]? =some z->R (λh=>aF P ds rest (act n ((d,.pointer (some ⟨b,o,none⟩))::l) D pm ro) h K) B w0 kl (eG b o [.bool z]::F)):=
 ⟨λr=>(QV hn hg hx hi hf (by omega) (by omega)).h λb o z hz=>r b o z (by simpa using hz)⟩
end
inductive Fill(ρ:Operand->Value):List Value->List (Nat×Nat×Operand)->List Value->Prop
 |nil {cs:List Value}:Fill ρ cs [] cs
 |cons {cs vs cs' r:List Value} {off size:Nat} {x:Operand} {parts:List (Nat×Nat×Operand)} {v:Value} (h0:ρ x=v) (h1:cellsOf v=some vs) (h2:Nat.beq (iE vs) size=true) (h3:jb cs off vs=some cs') (t:Fill ρ cs' parts r):Fill ρ cs ((off,size,x)::parts) r
theorem Fill.eq{ρ:Operand->Value}:∀{zero:List Value} {parts:List (Nat×Nat×Operand)} {cs:List Value},Fill ρ zero parts cs->qx ρ zero parts=some cs
 |_,_,_,.nil=>rfl
 |cs0,_,_,.cons (off:=off) (size:=size) (x:=x) (parts:=parts) h0 h1 h2 h3 t=>by
  have ih:=t.eq;show(match cellsOf (ρ x)with
   |none=>none
   |some vs=>cond (Nat.beq (iE vs) size) (match jb cs0 off vs with
    |some cs=>qx ρ cs parts
    |none=>none) none)=_
  simp only[h0,h1,h2,h3,cond,ih]
theorem aa3{B:List Nat}{w0:Wd}{kl:List OA}{F:List aH}{K:KO}{ds:List Tmp}{rest:List bT}{n:Nat}{l:List (Nat×Value)}{D:List Deferred}{pm:Option FrameMode}{ro:Option Nat}{d:Nat}{g:Option (Tmp×Bool)}
 {t:TypeId} {len:Nat} {zero cs:List Value} {parts:List (Nat×Nat×Operand)} (hn:Nat.blt d n=true) (hg:bU l g=true) (hx:Fill (ev l) zero parts cs):
 dL (R (λh=>aF P ds (⟨⟨some d,g,.vo t len zero parts⟩,[]⟩::rest) (act n l D pm ro) h K) B w0 kl F)
 (∀b,R (λh=>aF P ds rest (act n ((d,.slice (some ⟨b,0,some 0⟩) len len)::l) D pm ro) h K) B w0 (pt b (.cells cs)::kl) F):=aaF hn hg hx.eq
theorem aa4{B:List Nat}{w0:Wd}{kl:List OA}{F:List aH}{K:KO}{ds:List Tmp}{rest:List bT}{n:Nat}{l:List (Nat×Value)}{D:List Deferred}{pm:Option FrameMode}{ro:Option Nat}{d:Nat}{g:Option (Tmp×Bool)}
 {zero cs:List Value} {parts:List (Nat×Nat×Operand)} (hn:Nat.blt d n=true) (hg:bU l g=true) (hx:Fill (ev l) zero parts cs):
 dL (R (λh=>aF P ds (⟨⟨some d,g,.build zero parts⟩,[]⟩::rest) (act n l D pm ro) h K) B w0 kl F) (R (λh=>aF P ds rest (act n ((d,.agg ⟨cs⟩)::l) D pm ro) h K) B w0 kl F):=eD hn hg (aae hx.eq)
theorem aS{B:List Nat}{w0:Wd}{kl:List OA}{F:List aH}{α:Type}{E:Enc α}{v:Value}{xs:List α}{Q:IH->Prop}(hf:ah E v xs∈F)(h:∀a c,v=.slice a xs.length c->R Q B w0 kl F):R Q B w0 kl F:=λw s=>by
 obtain⟨a,c,e⟩:=QT (s.facts _ hf);exact h a c e w s
section
variable {B:List Nat} {w0:Wd} {kl:List OA} {F:List aH} {K:KO} {ds:List Tmp} {rest:List bT} {n:Nat} {l:List (Nat×Value)} {D:List Deferred} {pm:Option FrameMode} {ro:Option Nat} {t1 t2:Nat}
theorem aL{e:Bool}(h1:e=false->R (λh=>aF P ds rest (act n ((t1,.bool false)::(t2,.bool false)::l) D pm ro) h K) B w0 kl F)(h2:e=true->R (λh=>aF P ds rest (act n ((t1,.bool true)::(t2,.bool true)::l) D pm ro) h K) B w0 kl F):
 R (λh=>aF P ds rest (act n ((t1,.bool e)::(t2,.bool e)::l) D pm ro) h K) B w0 kl F:=by
 cases e
 ·exact h1 rfl
 ·exact h2 rfl
theorem aN{p:Prop}{_:Decidable p}(h1:¬p->R (λh=>aF P ds rest (act n ((t1,.bool false)::(t2,.bool false)::l) D pm ro) h K) B w0 kl F)(h2:p->R (λh=>aF P ds rest (act n ((t1,.bool true)::(t2,.bool true)::l) D pm ro) h K) B w0 kl F):
 R (λh=>aF P ds rest (act n ((t1,.bool (decide p))::(t2,.bool (decide p))::l) D pm ro) h K) B w0 kl F:=
 aL (λe=>h1 (mY e)) (λe=>h2 (gY e))
theorem aM{p:Prop}{_:Decidable p}(h1:p->R (λh=>aF P ds rest (act n ((t1,.bool false)::(t2,.bool false)::l) D pm ro) h K) B w0 kl F)(h2:¬p->R (λh=>aF P ds rest (act n ((t1,.bool true)::(t2,.bool true)::l) D pm ro) h K) B w0 kl F):
 R (λh=>aF P ds rest (act n ((t1,.bool (!decide p))::(t2,.bool (!decide p))::l) D pm ro) h K) B w0 kl F:=
 aL (λe=>h1 (by simpa using e)) (λe=>h2 (by simpa using e))
end
section
variable {B:List Nat} {w0:Wd} {kl kl':List OA} {F:List aH} {K:KO} {ds:List Tmp} {rest:List bT} {n:Nat} {l:List (Nat×Value)} {D:List Deferred} {pm:Option FrameMode} {ro:Option Nat} {d:Nat} {g:Option (Tmp×Bool)}
theorem aa5{x:Operand}{t:TypeId}{v:Value}{cs:List Value}(hn:Nat.blt d n=true)(hg:bU l g=true)(hv:ev l x=v)(hx:cellsOf v=some cs):dL (R (λh=>aF P ds (⟨⟨some d,g,.box x t⟩,[]⟩::rest) (act n l D pm ro) h K) B w0 kl F)
 (∀b,R (λh=>aF P ds rest (act n ((d,.pointer (some ⟨b,0,none⟩))::l) D pm ro) h K) B w0 (pt b (.cells cs)::kl) F):=aaE hn hg (by rw[hv];exact hx)
theorem aa6{x y:Operand}{b o m:Nat}{cs vs c:List Value}{v:Value}(hg:bU l g=true)(hx:ev l x=.pointer (some ⟨b,o,none⟩))(hw:ev l y=v)(hy:cellsOf v=some vs)(hm:Nat.beq (iE vs) m=true)
 (hk:ay (pt b (.cells cs)) kl kl') (hv:jb cs o vs=some c):
 dL (R (λh=>aF P ds (⟨⟨none,g,.store m x y⟩,[]⟩::rest) (act n l D pm ro) h K) B w0 kl F) (R (λh=>aF P ds rest (act n l D pm ro) h K) B w0 (pt b (.cells c)::kl') F):=aaL hg hx (by rw[hw];exact hy) hm hk hv
end
theorem aa7{B:List Nat}{w0:Wd}{kl:List OA}{F:List aH}{K:KO}{ds:List Tmp}{rest:List bT}{n:Nat}{l:List (Nat×Value)}{D:List Deferred}{pm:Option FrameMode}{ro:Option Nat}{d:Nat}{g:Option (Tmp×Bool)}
 {fn:Fn} {first captured:List Operand} {a b:List Value} (hn:Nat.blt d n=true) (hg:bU l g=true) (h1:EvL (ev l) first a) (h2:EvL (ev l) captured b):
 dL (R (λh=>aF P ds (⟨⟨some d,g,.AZ fn first captured⟩,[]⟩::rest) (act n l D pm ro) h K) B w0 kl F) (R (λh=>aF P ds rest (act n ((d,.func fn ⟨a⟩ ⟨b⟩)::l) D pm ro) h K) B w0 kl F):=eD hn hg (aaf h1 h2)
theorem go{G G':Prop}(x:G')(r:dL G G':=by
 repeat (first
  |((with_reducible apply dL.trans);first
   |with_reducible exact aag
   |with_reducible exact aah
   |with_reducible exact aai
   |with_reducible exact aaj
   |with_reducible exact aak
   |with_reducible exact aal
   |with_reducible exact aam
   |with_reducible exact aan
   |with_reducible exact aao
   |with_reducible exact aap
   |with_reducible exact aaq
   |with_reducible exact aar
   |with_reducible exact aas
   |with_reducible exact aat
   |with_reducible exact aau
   |with_reducible exact aax
   |with_reducible exact aay
   |with_reducible exact aaz
   |((with_reducible apply aav);exact rfl)
   |((with_reducible apply aaw);exact rfl)
   |((with_reducible apply aaA);(focus exact rfl))
   |((with_reducible apply aaB);(focus exact rfl))
   |((with_reducible apply aaC);(focus exact rfl);(focus exact rfl))
   |((with_reducible apply aa1);(focus exact rfl);(focus exact rfl);(focus ((conv=>lhs;whnf);(first|done|fail)));(focus exact rfl);(focus (((repeat (first|with_reducible exact cZ .. |with_reducible apply cO));first|done|fail);(first|done|fail)));(focus ((omega);(first|done|fail))))
   |((with_reducible apply aa2);(focus exact rfl);(focus exact rfl);(focus ((conv=>lhs;whnf);(first|done|fail)));(focus exact rfl);(focus (((repeat (first|with_reducible exact cZ .. |with_reducible apply cO));first|done|fail);(first|done|fail)));(focus ((omega);(first|done|fail))))
   |((with_reducible apply QU);(focus exact rfl);(focus exact rfl);(focus ((conv=>lhs;whnf);(first|done|fail)));(focus exact rfl);(focus (((repeat (first|with_reducible exact cZ .. |with_reducible apply cO));first|done|fail);(first|done|fail)));(focus ((omega);(first|done|fail)));(focus ((omega);(first|done|fail))))
   |((with_reducible apply QV);(focus exact rfl);(focus exact rfl);(focus ((conv=>lhs;whnf);(first|done|fail)));(focus exact rfl);(focus (((repeat (first|with_reducible exact cZ .. |with_reducible apply cO));first|done|fail);(first|done|fail)));(focus ((omega);(first|done|fail)));(focus ((omega);(first|done|fail))))
   |((with_reducible apply eD);(focus exact rfl);(focus exact rfl);(focus ((first|((with_reducible apply Em);(focus ((conv=>lhs;whnf);(first|done|fail))))|((with_reducible apply En);(focus ((conv=>lhs;whnf);(first|done|fail))))|((with_reducible apply Es);(focus exact rfl))|((with_reducible apply Eu);(focus exact rfl);(focus exact rfl))|((with_reducible apply Ew);(focus exact rfl);(focus exact rfl))|((with_reducible apply Ex);(focus exact rfl);(focus exact rfl))|((with_reducible apply Ey);(focus exact rfl);(focus exact rfl))|((with_reducible apply Ez);(focus exact rfl);(focus exact rfl))|((with_reducible apply EA);(focus exact rfl);(focus exact rfl))|((with_reducible apply Er);(focus exact rfl))|((with_reducible apply Eo);(focus exact rfl);(focus ((conv=>lhs;whnf);(first|done|fail))))|((with_reducible apply Ep);(focus exact rfl);(focus ((conv=>lhs;whnf);(first|done|fail))))|((with_reducible apply EC);(focus exact rfl);(focus ((conv=>lhs;whnf);(first|done|fail))))|((with_reducible apply ED);(focus exact rfl))|((with_reducible apply EE);(focus exact rfl);(focus ((conv=>lhs;whnf);(first|done|fail))))|((with_reducible apply EF);(focus exact rfl);(focus ((conv=>lhs;whnf);(first|done|fail))))|((with_reducible apply EG);(focus ((conv=>lhs;whnf);(first|done|fail))))|((with_reducible apply EH);(focus exact rfl))|((with_reducible apply EI);(focus exact rfl))|((with_reducible apply EJ);(focus exact rfl))|with_reducible exact Et|((with_reducible apply EK);(focus exact rfl);(focus exact rfl);(focus exact rfl))|((with_reducible apply ET);(focus exact rfl);(focus exact rfl);(focus ((omega);(first|done|fail))))|((with_reducible apply BC);(focus exact rfl);(focus exact rfl);(focus ((omega);(first|done|fail)));(focus ((omega);(first|done|fail))))|((with_reducible apply EL);(focus exact rfl);(focus exact rfl);(focus ((omega);(first|done|fail)));(focus ((omega);(first|done|fail))))|((with_reducible apply zF);(focus exact rfl);(focus exact rfl);(focus ((omega);(first|done|fail)));(focus ((omega);(first|done|fail))))|((with_reducible apply EB);(focus exact rfl);(focus exact rfl);(focus ((omega);(first|done|fail)));(focus ((omega);(first|done|fail))))|((with_reducible apply EN);(focus exact rfl);(focus exact rfl);(focus ((first|assumption|kernel_rfl);(first|done|fail))))|((with_reducible apply EO);(focus exact rfl);(focus exact rfl);(focus ((first|assumption|kernel_rfl);(first|done|fail))))|((with_reducible apply EP);(focus exact rfl);(focus exact rfl))|((with_reducible apply EQ);(focus exact rfl);(focus exact rfl))|((with_reducible apply ES);(focus exact rfl);(focus exact rfl);(focus ((omega);(first|done|fail)));(focus ((omega);(first|done|fail)))));(first|done|fail))))
   |((with_reducible apply aa7);(focus exact rfl);(focus exact rfl);(focus (repeat (first|with_reducible exact EvL.nil|((with_reducible apply EvL.cons);(conv=>lhs;whnf)))));(focus (repeat (first|with_reducible exact EvL.nil|((with_reducible apply EvL.cons);(conv=>lhs;whnf))))))
   |((with_reducible apply aa3);(focus exact rfl);(focus exact rfl);(focus (repeat (first|with_reducible exact Fill.nil|((with_reducible apply Fill.cons);(conv=>lhs;whnf);(conv=>lhs;whnf);(focus exact rfl);(conv=>lhs;whnf))))))
   |((with_reducible apply aa4);(focus exact rfl);(focus exact rfl);(focus (repeat (first|with_reducible exact Fill.nil|((with_reducible apply Fill.cons);(conv=>lhs;whnf);(conv=>lhs;whnf);(focus exact rfl);(conv=>lhs;whnf))))))
   |((with_reducible apply aa5);(focus exact rfl);(focus exact rfl);(focus ((conv=>lhs;whnf);(first|done|fail)));(focus ((conv=>lhs;whnf);(first|done|fail))))
   |((with_reducible apply aaD);(focus exact rfl);(focus exact rfl))
   |((with_reducible apply aaH);(focus exact rfl);(focus exact rfl);(focus exact rfl);(focus ((repeat (first|with_reducible exact ay.here|with_reducible apply ay.there|with_reducible apply ay.app));(first|done|fail)));(focus ((conv=>lhs;whnf);(first|done|fail))))
   |((with_reducible apply aaI);(focus exact rfl);(focus exact rfl);(focus exact rfl);(focus ((repeat (first|with_reducible exact ay.here|with_reducible apply ay.there|with_reducible apply ay.app));(first|done|fail)));(focus ((conv=>lhs;whnf);(first|done|fail))))
   |((with_reducible apply aaJ);(focus exact rfl);(focus exact rfl);(focus exact rfl);(focus (((repeat (first|with_reducible exact cZ .. |with_reducible apply cO));first|done|fail);(first|done|fail)));(focus ((conv=>lhs;whnf);(first|done|fail))))
   |((with_reducible apply QS);(focus exact rfl);(focus exact rfl);(focus exact rfl);(focus (((repeat (first|with_reducible exact cZ .. |with_reducible apply cO));first|done|fail);(first|done|fail)));(focus ((conv=>lhs;whnf);(first|done|fail))))
   |((with_reducible apply aaK);(focus exact rfl);(focus exact rfl);(focus exact rfl);(focus (((repeat (first|with_reducible exact cZ .. |with_reducible apply cO));first|done|fail);(first|done|fail)));(focus ((conv=>lhs;whnf);(first|done|fail))))
   |((with_reducible apply Lv);(focus exact rfl);(focus exact rfl);(focus exact rfl);(focus (((repeat (first|with_reducible exact cZ .. |with_reducible apply cO));first|done|fail);(first|done|fail)));(focus ((conv=>lhs;whnf);(first|done|fail))))
   |((with_reducible apply aa6);(focus exact rfl);(focus exact rfl);(focus ((conv=>lhs;whnf);(first|done|fail)));(focus ((conv=>lhs;whnf);(first|done|fail)));(focus exact rfl);(focus ((repeat (first|with_reducible exact ay.here|with_reducible apply ay.there|with_reducible apply ay.app));(first|done|fail)));(focus ((conv=>lhs;whnf);(first|done|fail))))
   |((with_reducible apply aaP);(focus exact rfl);(focus exact rfl);(focus ((conv=>lhs;whnf);(first|done|fail)));(focus (((repeat (first|with_reducible exact cZ .. |with_reducible apply cO));first|done|fail);(first|done|fail))))
   |((with_reducible apply aaQ);(focus exact rfl);(focus exact rfl);(focus ((conv=>lhs;whnf);(first|done|fail)));(focus ((repeat (first|with_reducible exact ay.here|with_reducible apply ay.there|with_reducible apply ay.app));(first|done|fail))))
   |((with_reducible apply aaX (re:=_::_));(focus exact rfl);(focus exact rfl);(focus ((first|((with_reducible apply Em);(focus ((conv=>lhs;whnf);(first|done|fail))))|((with_reducible apply En);(focus ((conv=>lhs;whnf);(first|done|fail))))|((with_reducible apply Es);(focus exact rfl))|((with_reducible apply Eu);(focus exact rfl);(focus exact rfl))|((with_reducible apply Ew);(focus exact rfl);(focus exact rfl))|((with_reducible apply Ex);(focus exact rfl);(focus exact rfl))|((with_reducible apply Ey);(focus exact rfl);(focus exact rfl))|((with_reducible apply Ez);(focus exact rfl);(focus exact rfl))|((with_reducible apply EA);(focus exact rfl);(focus exact rfl))|((with_reducible apply Er);(focus exact rfl))|((with_reducible apply Eo);(focus exact rfl);(focus ((conv=>lhs;whnf);(first|done|fail))))|((with_reducible apply Ep);(focus exact rfl);(focus ((conv=>lhs;whnf);(first|done|fail))))|((with_reducible apply EC);(focus exact rfl);(focus ((conv=>lhs;whnf);(first|done|fail))))|((with_reducible apply ED);(focus exact rfl))|((with_reducible apply EE);(focus exact rfl);(focus ((conv=>lhs;whnf);(first|done|fail))))|((with_reducible apply EF);(focus exact rfl);(focus ((conv=>lhs;whnf);(first|done|fail))))|((with_reducible apply EG);(focus ((conv=>lhs;whnf);(first|done|fail))))|((with_reducible apply EH);(focus exact rfl))|((with_reducible apply EI);(focus exact rfl))|((with_reducible apply EJ);(focus exact rfl))|with_reducible exact Et|((with_reducible apply EK);(focus exact rfl);(focus exact rfl);(focus exact rfl))|((with_reducible apply ET);(focus exact rfl);(focus exact rfl);(focus ((omega);(first|done|fail))))|((with_reducible apply BC);(focus exact rfl);(focus exact rfl);(focus ((omega);(first|done|fail)));(focus ((omega);(first|done|fail))))|((with_reducible apply EL);(focus exact rfl);(focus exact rfl);(focus ((omega);(first|done|fail)));(focus ((omega);(first|done|fail))))|((with_reducible apply zF);(focus exact rfl);(focus exact rfl);(focus ((omega);(first|done|fail)));(focus ((omega);(first|done|fail))))|((with_reducible apply EB);(focus exact rfl);(focus exact rfl);(focus ((omega);(first|done|fail)));(focus ((omega);(first|done|fail))))|((with_reducible apply EN);(focus exact rfl);(focus exact rfl);(focus ((first|assumption|kernel_rfl);(first|done|fail))))|((with_reducible apply EO);(focus exact rfl);(focus exact rfl);(focus ((first|assumption|kernel_rfl);(first|done|fail))))|((with_reducible apply EP);(focus exact rfl);(focus exact rfl))|((with_reducible apply EQ);(focus exact rfl);(focus exact rfl))|((with_reducible apply ES);(focus exact rfl);(focus exact rfl);(focus ((omega);(first|done|fail)));(focus ((omega);(first|done|fail)))));(first|done|fail)));(focus ((repeat (first|exact zH|refine zI rfl (by repeat (first|with_reducible exact ay.here|with_reducible apply ay.there|with_reducible apply ay.app)) (by first|exact rfl|(conv=>lhs;whnf)) rfl ?_|refine BD rfl (by(repeat (first|with_reducible exact cZ .. |with_reducible apply cO));first|done|fail) (by first|exact rfl|(conv=>lhs;whnf)) rfl ?_|refine BF rfl (by(repeat (first|with_reducible exact cZ .. |with_reducible apply cO));first|done|fail) (by first|exact rfl|(conv=>lhs;whnf)) rfl ?_|refine BG rfl (by repeat (first|with_reducible exact ay.here|with_reducible apply ay.there|with_reducible apply ay.app)) (by first|exact rfl|(conv=>lhs;whnf)) rfl ?_|refine BH rfl (by(repeat (first|with_reducible exact cZ .. |with_reducible apply cO));first|done|fail) (by first|exact rfl|(conv=>lhs;whnf)) rfl ?_|refine BI rfl (by(repeat (first|with_reducible exact cZ .. |with_reducible apply cO));first|done|fail) (by first|exact rfl|(conv=>lhs;whnf)) rfl ?_));(first|done|fail))))
   |((with_reducible apply aaW (re:=_::_));(focus exact rfl);(focus exact rfl);(focus ((conv=>lhs;whnf);(first|done|fail)));(focus ((conv=>lhs;whnf);(first|done|fail)));(focus exact rfl);(focus ((repeat (first|with_reducible exact ay.here|with_reducible apply ay.there|with_reducible apply ay.app));(first|done|fail)));(focus ((conv=>lhs;whnf);(first|done|fail)));(focus ((repeat (first|exact zH|refine zI rfl (by repeat (first|with_reducible exact ay.here|with_reducible apply ay.there|with_reducible apply ay.app)) (by first|exact rfl|(conv=>lhs;whnf)) rfl ?_|refine BD rfl (by(repeat (first|with_reducible exact cZ .. |with_reducible apply cO));first|done|fail) (by first|exact rfl|(conv=>lhs;whnf)) rfl ?_|refine BF rfl (by(repeat (first|with_reducible exact cZ .. |with_reducible apply cO));first|done|fail) (by first|exact rfl|(conv=>lhs;whnf)) rfl ?_|refine BG rfl (by repeat (first|with_reducible exact ay.here|with_reducible apply ay.there|with_reducible apply ay.app)) (by first|exact rfl|(conv=>lhs;whnf)) rfl ?_|refine BH rfl (by(repeat (first|with_reducible exact cZ .. |with_reducible apply cO));first|done|fail) (by first|exact rfl|(conv=>lhs;whnf)) rfl ?_|refine BI rfl (by(repeat (first|with_reducible exact cZ .. |with_reducible apply cO));first|done|fail) (by first|exact rfl|(conv=>lhs;whnf)) rfl ?_));(first|done|fail))))
   |fail)
  |((with_reducible apply dL.all);intro _)
  |with_reducible apply dL.imp)
 with_reducible exact dL.refl _):G:=r.h x
theorem kC{B:List Nat}{w0:Wd}{kl:List OA}{F:List aH}{K:KO}{c:dx}{a:aW}(r:R (λh=>EV P c a h (xM P (.loop c) K)) B w0 kl F):R (λh=>EV P (.loop c) a h K) B w0 kl F:=λw s=>
 .loop _ (r w s) (λ_ _ hm=>hm) (λo a' h' hm hn=>by
  cases o with
  |normal=>exact absurd rfl hn
  |_=>exact hm)
theorem jT.sub{α:Type}{F0:List α}:∀{F:List α},jT F0 F->Sub F0 F:=λ{F} h=>by
 have:∀k:List α,(∀x∈k,x∈F)->Sub k F:=by
  intro k;induction k with
  |nil=>intro _;exact .nil
  |cons a k ih=>intro hk;exact .cons (hk a (cZ ..)) (ih λx hx=>hk x (cO _ hx))
 exact this F0 h.mem
inductive bC{α:Type}:List α->List α->List α->Prop
 |nil {l:List α}:bC [] l l
 |cons {a:α} {k l m:List α} (h:bC k l m):bC (a::k) l (a::m)
 |self {k:List α}:bC k [] k
 |app {k l:List α}:bC k l (k++l)
theorem bC.eq{α:Type}:∀{k l m:List α},bC k l m->k++l=m
 |_,_,_,.nil=>rfl
 |_,_,_,.self=>gy _
 |_,_,_,.app=>rfl
 |_,_,_,.cons h=>by rw[dD,h.eq]
section
variable {B:List Nat} {w0:Wd} {kl kl' bq:List OA} {F:List aH} {K:KO} {ds:List Tmp} {rest:List bT} {n:Nat} {l:List (Nat×Value)} {D:List Deferred} {pm:Option FrameMode} {ro:Option Nat} {d:Nat} {g:Option (Tmp×Bool)}
theorem ax{Y:Type}{f:Operand}{xs:List Operand}{re:List gZ}{fn:Fn}{first captured vs as:List Value}{k1:List OA}{F1:List aH}{val:Y->Value}{k1':Y->List OA}{fs:Y->List aH}{pr:Y->Prop}{dM:Y->List OA}{F2:Y->List aH}
 (hc:bi P fn as captured k1 F1 val k1' fs pr) (hn:Nat.blt d n=true:=by rfl) (hg:bU l g=true:=by rfl) (hf:ev l f=.func fn ⟨first⟩ ⟨captured⟩:=by rfl) (hx:EvL (ev l) xs vs:=by repeat (first|with_reducible exact EvL.nil|((with_reducible apply EvL.cons);(conv=>lhs;whnf)))) (ha:first++vs=as:=by rfl)
 (hk:aI k1 kl bq:=by exact l8) (hF:Sub F1 F:=by exact lJ)
 (hak:∀y,bC (k1' y) bq (dM y):=by intro y;repeat (first|exact bC.nil|apply bC.cons|exact bC.self|exact bC.app)) (xW:∀y,bC (fs y) F (F2 y):=by intro y;repeat (first|exact bC.nil|apply bC.cons|exact bC.self|exact bC.app))
 (hs:∀y,pr y->Same P re (ev ((d,val y)::l)) ((d,val y)::l) B w0 (dM y) (F2 y):=by intro _ _;repeat (first|exact zH|refine zI rfl (by repeat (first|with_reducible exact ay.here|with_reducible apply ay.there|with_reducible apply ay.app)) (by first|exact rfl|(conv=>lhs;whnf)) rfl ?_|refine BD rfl (by(repeat (first|with_reducible exact cZ .. |with_reducible apply cO));first|done|fail) (by first|exact rfl|(conv=>lhs;whnf)) rfl ?_|refine BF rfl (by(repeat (first|with_reducible exact cZ .. |with_reducible apply cO));first|done|fail) (by first|exact rfl|(conv=>lhs;whnf)) rfl ?_|refine BG rfl (by repeat (first|with_reducible exact ay.here|with_reducible apply ay.there|with_reducible apply ay.app)) (by first|exact rfl|(conv=>lhs;whnf)) rfl ?_|refine BH rfl (by(repeat (first|with_reducible exact cZ .. |with_reducible apply cO));first|done|fail) (by first|exact rfl|(conv=>lhs;whnf)) rfl ?_|refine BI rfl (by(repeat (first|with_reducible exact cZ .. |with_reducible apply cO));first|done|fail) (by first|exact rfl|(conv=>lhs;whnf)) rfl ?_|refine LF (by first|((with_reducible apply Em);(focus ((conv=>lhs;whnf);(first|done|fail))))|((with_reducible apply En);(focus ((conv=>lhs;whnf);(first|done|fail))))|((with_reducible apply Es);(focus exact rfl))|((with_reducible apply Eu);(focus exact rfl);(focus exact rfl))|((with_reducible apply Ew);(focus exact rfl);(focus exact rfl))|((with_reducible apply Ex);(focus exact rfl);(focus exact rfl))|((with_reducible apply Ey);(focus exact rfl);(focus exact rfl))|((with_reducible apply Ez);(focus exact rfl);(focus exact rfl))|((with_reducible apply EA);(focus exact rfl);(focus exact rfl))|((with_reducible apply Er);(focus exact rfl))|((with_reducible apply Eo);(focus exact rfl);(focus ((conv=>lhs;whnf);(first|done|fail))))|((with_reducible apply Ep);(focus exact rfl);(focus ((conv=>lhs;whnf);(first|done|fail))))|((with_reducible apply EC);(focus exact rfl);(focus ((conv=>lhs;whnf);(first|done|fail))))|((with_reducible apply ED);(focus exact rfl))|((with_reducible apply EE);(focus exact rfl);(focus ((conv=>lhs;whnf);(first|done|fail))))|((with_reducible apply EF);(focus exact rfl);(focus ((conv=>lhs;whnf);(first|done|fail))))|((with_reducible apply EG);(focus ((conv=>lhs;whnf);(first|done|fail))))|((with_reducible apply EH);(focus exact rfl))|((with_reducible apply EI);(focus exact rfl))|((with_reducible apply EJ);(focus exact rfl))|with_reducible exact Et|((with_reducible apply EK);(focus exact rfl);(focus exact rfl);(focus exact rfl))|((with_reducible apply ET);(focus exact rfl);(focus exact rfl);(focus ((omega);(first|done|fail))))|((with_reducible apply BC);(focus exact rfl);(focus exact rfl);(focus ((omega);(first|done|fail)));(focus ((omega);(first|done|fail))))|((with_reducible apply EL);(focus exact rfl);(focus exact rfl);(focus ((omega);(first|done|fail)));(focus ((omega);(first|done|fail))))|((with_reducible apply zF);(focus exact rfl);(focus exact rfl);(focus ((omega);(first|done|fail)));(focus ((omega);(first|done|fail))))|((with_reducible apply EB);(focus exact rfl);(focus exact rfl);(focus ((omega);(first|done|fail)));(focus ((omega);(first|done|fail))))|((with_reducible apply EN);(focus exact rfl);(focus exact rfl);(focus ((first|assumption|kernel_rfl);(first|done|fail))))|((with_reducible apply EO);(focus exact rfl);(focus exact rfl);(focus ((first|assumption|kernel_rfl);(first|done|fail))))|((with_reducible apply EP);(focus exact rfl);(focus exact rfl))|((with_reducible apply EQ);(focus exact rfl);(focus exact rfl))|((with_reducible apply ES);(focus exact rfl);(focus exact rfl);(focus ((omega);(first|done|fail)));(focus ((omega);(first|done|fail))))) rfl ?_))
 (next:∀y,pr y->R (λh=>aF P ds rest (act n ((d,val y)::l) D pm ro) h K) B w0 (dM y) (F2 y)):
 R (λh=>aF P ds (⟨⟨some d,g,.call f xs⟩,re⟩::rest) (act n l D pm ro) h K) B w0 kl F:=
 aaY hc hn hg hf hx ha hk hF (λy hy=>by rw[(hak y).eq,(xW y).eq];exact hs y hy) (λy hy=>by rw[(hak y).eq,(xW y).eq];exact next y hy)
abbrev dz(P:Program)(f:FuncId)(args:List Value)(F:List aH)(v:Value):Prop:=bi P (.func f) args [] [] F (λ_:Unit=>v) (λ_=>[]) (λ_=>[]) (λ_=>True)
theorem aK{Y:Type}{f:FuncId}{args cap:List Value}{kl:List OA}{F:List aH}{val:Y->Value}{kl':Y->List OA}{fs:Y->List aH}{pr:Y->Prop}{c:dx}{m:Nat}{l0:List (Nat×Value)}(cf:gN)(hF:(nN P pQ pR).F f=some cf)
 (hb:∀B w0,R (λh=>EV P c (act m l0 [] none none) h (Bw cf (Left B w0 val kl' fs pr))) B w0 kl F)
 (h1:cf.body=c:=by conv=>lhs;(reduce;(try simp only[Int.reduceOfNat,Int.reduceNegSucc]))) (h2:qz cf.ntmps (iE (args++cap))=m:=by conv=>lhs;whnf) (h3:oP 0 (args++cap) []=l0:=by dsimp only[oP,Nat.reduceAdd,List.append_nil,List.cons_append,List.nil_append]):bi P (.func f) args cap kl F val kl' fs pr:=
 aaU cf hF (by rw[h1,h2,h3];exact hb)
theorem bz{α:Type}(E:Enc α){x i:Operand}{v:Value}{xs:List α}{size:Nat}{k:Nat}{kk:IntKind}{F2:α->E.Y->List aH}(hn:Nat.blt d n=true:=by rfl)(hg:bU l g=true:=by rfl)(hx:ev l x=v:=by conv=>lhs;whnf)(hi:ev l i=.int kk (k:Int):=by rfl)
 (hf:ah E v xs∈F:=by exact qI) (hs:E.n=size:=by rfl) (h1:k<xs.length:=by omega)
 (ha:∀z y,bC (E.fs z y) F (F2 z y):=by intro z y;repeat (first|exact bC.nil|apply bC.cons|exact bC.self|exact bC.app))
 (next:∀b o z y,xs[k]? =some z->R (λh=>aF P ds rest (act n ((d,.pointer (some ⟨b,o,none⟩))::l) D pm ro) h K) B w0 kl (eG b o (E.pat z y)::F2 z y)):
 R (λh=>aF P ds (⟨⟨some d,g,.lY size x i⟩,[]⟩::rest) (act n l D pm ro) h K) B w0 kl F:=
 (LB hn hg hx hi hf hs (by omega) (by omega)).h λb o z y hz=>by rw[(ha z y).eq];exact next b o z y (by simpa using hz)
theorem ae{Y:Type}{o:Out}{cf:gN}{vs:List Value}{val:Y->Value}{k1:Y->List OA}{fs:Y->List aH}{pr:Y->Prop}(y:Y)
 (hr:RS l kl cf.results vs:=by exact zJ) (hv:qH vs=val y:=by rfl) (hp:pr y)
 (hk:aI (k1 y) kl bq:=by exact l8) (hF:Sub (fs y) F:=by exact lJ)
 (ho:o=.normal\/o=.ret:=by first|exact .inl rfl|exact .inr rfl):R (λh=>Bw cf (Left B w0 val k1 fs pr) o (act n l [] none ro) h) B w0 kl F:=
 QZ y hr hv hp hk hF ho
theorem bD{A:OA}{fs F2:List aH}{Q:IH->Prop}(hA:tK A fs)(hk:ay A kl kl':=by exact gD)(ha:bC fs F F2:=by repeat (first|exact bC.nil|apply bC.cons|exact bC.self|exact bC.app))(h:R Q B w0 kl' F2):R Q B w0 kl F:=
 aaR hA hk (by rw[ha.eq];exact h)
theorem aZ{X:Type}{c:dx}{l0:List (Nat×Value)}{L2:X->List (Nat×Value)}{xX:X->List OA}{xY:X->List aH}(m:X->Nat)(L:X->List (Nat×Value))(KL:X->List OA)(FF:X->List aH)(inv:X->Prop)(x0:X)(hi:inv x0)
 (h0:nS l (L x0) l0:=by repeat (first|exact nS.nil|(apply nS.drop;(focus exact rfl))|(apply nS.keep;(focus exact rfl)))) (hl:sub (L x0++l0) l:=by repeat (first|exact trivial|refine⟨rfl,?_⟩))
 (hk:aI (KL x0) kl bq:=by exact l8) (hF:Sub (FF x0) F:=by exact lJ)
 (hak:∀x,bC (KL x) bq (xX x):=by intro y;repeat (first|exact bC.nil|apply bC.cons|exact bC.self|exact bC.app)) (xW:∀x,bC (FF x) F (xY x):=by intro y;repeat (first|exact bC.nil|apply bC.cons|exact bC.self|exact bC.app))
 (hal:∀x,bC (L x) l0 (L2 x):=by intro y;repeat (first|exact bC.nil|apply bC.cons|exact bC.self|exact bC.app))
 (body:∀x,inv x->R (λh=>EV P c (act n (L2 x) D pm ro) h (tH (LI n D pm ro B w0 m L KL FF inv l0 bq F) (m x) K)) B w0 (xX x) (xY x)):
 R (λh=>EV P (.loop c) (act n l D pm ro) h K) B w0 kl F:=
 aaZ m L KL FF inv x0 hi l0 hl hk hF λx hx=>by rw[(hak x).eq,(xW x).eq,(hal x).eq];exact body x hx
theorem aQ{X:Type}{m:X->Nat}{L:X->List (Nat×Value)}{KL:X->List OA}{FF:X->List aH}{inv:X->Prop}{l0:List (Nat×Value)}{xZ dM:List OA}{F0:List aH}{m0:Nat}(x:X)(hm:m x<m0)(hi:inv x)
 (hl:sub (L x++l0) l:=by repeat (first|exact trivial|refine⟨rfl,?_⟩)) (ha:bC (KL x) bq xZ:=by repeat (first|exact bC.nil|apply bC.cons|exact bC.self|exact bC.app))
 (hk:aI xZ kl dM:=by exact l8) (hF:Sub (FF x) F:=by exact lJ)
 (vV:jT F0 F:=by repeat (first|exact jT.here|apply jT.cons|apply jT.app)):
 R (λh=>tH (LI n D pm ro B w0 m L KL FF inv l0 bq F0) m0 K .normal (act n l D pm ro) h) B w0 kl F:=
 aa0 x hm hi hl (by rw[ha.eq];exact hk) hF vV
end
end Go.Ideal
namespace Go.Ideal
noncomputable def HY(L:Lay):Wd:=⟨j5 L,λi=>i<(j5 L).next,λ_ h=>h⟩
end Go.Ideal
namespace Go.Ideal
open Go.ChangeShapes Go.WideShapes Go.ChangeAt Go.RowKit
variable {P:Program}
def BJ{α:Type}(P:Program)(t:TypeId)(E:Enc α):Prop:=∀(w:Wd) (H:Type) (d:DataW H) (cs:List Value),(∀i,i<w.h.next->w.z i)->ik P w.h t cs d->∃a y,cs=E.pat a y/\∀f∈E.fs a y,f.p w
theorem LG{α:Type}{p:Nat->α->Prop}:∀n,(∀k,k<n->∃a,p k a)->∃l:List α,l.length=n/\∀(k:Nat) a,l[k]? =some a->p k a
 |0,_=>⟨[],rfl,λk a h=>by cases h⟩
 |n+1,h=>by
  obtain⟨l,h1,h2⟩:=LG n (λk hk=>h k (by omega));obtain⟨a,ha⟩:=h n (by omega);refine⟨l++[a],by simp[h1],λk b hb=>?_⟩;by_cases hk:k<l.length
  ·rw[kJ hk]at hb;exact h2 k b hb
  ·rw[lX (by omega)]at hb;have hk0:k=n:=by have:=(bO.1 hb).1;simp at this;omega
   subst hk0;rw[h1]at hb;simp at hb;subst hb;exact ha
def Q0{α β:Type}(E1:Enc α)(E2:Enc β):Enc (α×β):=⟨E1.n+E2.n,E1.Y×E2.Y,λa y=>E1.pat a.1 y.1++E2.pat a.2 y.2,λa y=>E1.fs a.1 y.1++E2.fs a.2 y.2,λa y=>by rw[fA,E1.len,E2.len]⟩
def Q3:Enc Unit:=⟨0,Unit,λ_ _=>[],λ_ _=>[],λ_ _=>rfl⟩
inductive BK(P:Program):{α:Type}->List Field->Enc α->Prop
 |nil:BK P [] Q3
 |cons {α β:Type} {f:Field} {fs:List Field} {E1:Enc α} {E2:Enc β} (h:BJ P f.type E1) (hn:P.cellsOf f.type=E1.n) (t:BK P fs E2):BK P (f::fs) (Q0 E1 E2)
theorem BK.HZ{w:Wd}{H:Type}(hz:∀i,i<w.h.next->w.z i):∀{α:Type} {fs:List Field} {E:Enc α},BK P fs E->∀(o0:Nat) (cs:List Value) (ds:List (DataW H)),cs.length=(fs.map λf=>P.cellsOf f.type).sum->ds.length=fs.length->
 fs.map (·.offset)=sums o0 (fs.map λf=>P.cellsOf f.type)->(∀(j:Nat) f d,fs[j]? =some f->ds[j]? =some d->ik P w.h f.type ((cs.drop (f.offset - o0)).take (P.cellsOf f.type)) d)->∃a y,cs=E.pat a y/\∀f∈E.fs a y,f.p w
 |_,_,_,.nil,o0,cs,ds,h1,h2,h3,h4=>⟨(),(),ji.1 (by simpa using h1),λf hf=>by cases hf⟩
 |_,_,_,.cons (f:=f) (fs:=fs) (E1:=E1) (E2:=E2) h hn t,o0,cs,ds,h1,h2,h3,h4=>by
  match ds,h2 with
  |d::ds,h2=>
   simp only[gQ,List.sum_cons,sums,AJ]at h1 h3;obtain⟨ho,h3⟩:=h3;have r0:=h4 0 f d rfl rfl;rw[ho,xe,uX]at r0;obtain⟨a,y,q1,q2⟩:=h w H d _ hz r0;obtain⟨b,z,u1,u2⟩:=BK.HZ hz t (o0+P.cellsOf f.type) (cs.drop (P.cellsOf f.type)) ds (by rw[mK];omega) (by simpa using h2) h3 (λj g e hg he=>by
    have:=h4 (j+1) g e hg he;rw[List.drop_drop];have hle:o0+P.cellsOf f.type<=g.offset:=by
     have hj:(fs.map (·.offset))[j]? =some g.offset:=by rw[eZ,hg];rfl
     rw[h3]at hj;have hs:(fs.map λf=>P.cellsOf f.type)[j]? =some (P.cellsOf g.type):=by rw[eZ,hg];rfl
     exact(xO _ ([]:List Value) (o0+P.cellsOf f.type) j _ _ hj hs).2
    rw[show P.cellsOf f.type+(g.offset - (o0+P.cellsOf f.type))=g.offset - o0 by omega];exact this)
   refine⟨(a,b),(y,z),?_,?_⟩
   ·show cs=E1.pat a y++E2.pat b z;rw[<- q1,<- u1,rq]
   ·intro g hg;rcases dV.1 hg with hg|hg
    ·exact q2 g hg
    ·exact u2 g hg
theorem BJ.conv{α β:Type}{t:TypeId}{E:Enc α}{E':Enc β}(h:BJ P t E)(hc:∀a y,∃b z,E.pat a y=E'.pat b z/\E.fs a y=E'.fs b z):BJ P t E':=λw H d cs hz r=>by
 obtain⟨a,y,q1,q2⟩:=h w H d cs hz r;obtain⟨b,z,e1,e2⟩:=hc a y;exact⟨b,z,by rw[q1,e1],λf hf=>q2 f (by rw[e2];exact hf)⟩
section
variable {H:Type} {enc:TypeId×Value->H} {W:World} {K:TypeId->Prop}
def uD(P:Program)(w:Wd)(t:TypeId)(v:Value){H:Type}(d:DataW H):Prop:=∃cs,ik P w.h t cs d/\((jJ P t=true/\v=.agg ⟨cs⟩)\/(jJ P t=false/\cs=[v]))
theorem uD.agg{α:Type}{w:Wd}{t:TypeId}{v:Value}{d:DataW H}{E:Enc α}(h:uD P w t v d)(hz:∀i,i<w.h.next->w.z i)(ha:jJ P t=true)(hr:BJ P t E):∃a y,v=.agg ⟨E.pat a y⟩/\∀f∈E.fs a y,f.p w:=by
 obtain⟨cs,r,⟨_,e⟩|⟨e,_⟩⟩:=h
 ·obtain⟨a,y,rfl,q⟩:=hr w H d cs hz r;exact⟨a,y,e,q⟩
 ·rw[ha]at e;cases e
theorem uD.one{α:Type}{w:Wd}{t:TypeId}{v:Value}{d:DataW H}{E:Enc α}(h:uD P w t v d)(hz:∀i,i<w.h.next->w.z i)(ha:jJ P t=false)(hr:BJ P t E):∃a y,E.pat a y=[v]/\∀f∈E.fs a y,f.p w:=by
 obtain⟨cs,r,⟨e,_⟩|⟨_,e⟩⟩:=h
 ·rw[ha]at e;cases e
 ·obtain⟨a,y,q0,q⟩:=hr w H d cs hz r;exact⟨a,y,by rw[<- q0,e],q⟩
theorem aa8{L:Lay}{t:TypeId}{v v0:Value}{d:DataW H}{w:Wd}(hw:w.h=j5 L)(r:xQ P (j5 L) t v d)(hv:VR (jM L) v v0)(hok:Value.okWide P W .any 0 t v0):uD P w t v d:=by
 obtain⟨cs,r1,h2,h3⟩:=r;refine⟨cs,by rw[hw];exact r1,?_⟩;cases ha:jJ P t with
 |true=>
  left;refine⟨rfl,?_⟩;rcases h3 with e|e
  ·subst e;have hagg:∃c,v0=.agg c:=by
    unfold jJ at ha;unfold Value.okWide at hok;split at ha
    ·rename_i fs hu;rw[hu]at hok;obtain⟨c,e,_⟩:=hok;exact⟨c,e⟩
    ·rename_i n e hu;rw[hu]at hok;obtain⟨c,e,_⟩:=hok;exact⟨c,e⟩
    ·cases ha
   obtain⟨c,rfl⟩:=hagg
   exfalso
   cases hv<;>simp[cellV]at h2
  ·exact e
 |false=>
  right;refine⟨rfl,?_⟩;rcases h3 with e|e
  ·exact e
  ·subst e
   exfalso
   cases hv with
   |agg hc hl=>
    cases hu:P.underlying t with
    |none=>simp[Value.okWide,Cell.okWide,Cell.ok,hu]at hok
    |some d=>cases d<;>simp[Value.okWide,Cell.okWide,Cell.ok,jJ,hu]at hok ha
theorem aa9{ts:List TypeId}{vs' vs:List Value}{L:Lay}(hv:aV (jM L) vs' vs):∀(j:Nat) v',vs'[j]? =some v'->∃v,vs[j]? =some v/\VR (jM L) v' v:=by
 intro j;induction j generalizing vs' vs with
 |zero=>
  intro v' h;cases hv with
  |nil=>cases h
  |cons h1 h2=>cases h;exact⟨_,rfl,h1⟩
 |succ j ih=>
  intro v' h;cases hv with
  |nil=>cases h
  |cons h1 h2=>exact ih h2 v' h
theorem Q4{a:Nat}{b:Nat->Bool}{c:Bool}:∀{ts:List TypeId} {vs:List Value} {ds:List (DataW H)} {ps:List MemPlace},DataW.TrodAll enc P W a b c ts vs ds ps->vs.length=ts.length/\ds.length=ts.length
 |[],[],[],_,_=>⟨rfl,rfl⟩
 |_::_,_::_,_::_,_,⟨_,_,_,h,_⟩=>by
  have:=Q4 h;simp[this.1,this.2]
theorem Q5{α:Type}{l:List α}(h:l.length=3):∃a b c,l=[a,b,c]:=by
 match l,h with
 |[a,b,c],_=>exact⟨a,b,c,rfl⟩
end
