/-
  The ideal machine, 53: the road through what needs no thought; lists put in order.
-/
import Derived.Test.YtjmgkllpcidhjaaGreatDoorIdealJE
import Derived.Test.YtjmgkllpcidhjaaGreatDoorIdealIE
set_option linter.all false
namespace Go.Ideal
theorem vg{p:Prop}(h:p:=by repeat (first|exact Sub.nil|(apply Sub.cons;(focus ((repeat (first|with_reducible exact aT .. |with_reducible apply bB));first|done|fail)))|exact gJ.sub (by repeat (first|with_reducible exact gJ.here|with_reducible apply gJ.cons|with_reducible apply gJ.app)))):p:=h
theorem Ag{p:Prop}(h:p:=by repeat (first|exact bI.nil|(apply bI.cons;(focus (repeat (first|with_reducible exact ak.here|with_reducible apply ak.there|with_reducible apply ak.app))))|with_reducible exact bI.all _|with_reducible exact bI.self _ _|with_reducible apply bI.there)):p:=h
theorem gP{p:Prop}(h:p:=by repeat (first|with_reducible exact ak.here|with_reducible apply ak.there|with_reducible apply ak.app)):p:=h
theorem RI{p:Prop}(h:p:=by repeat (first|exact RS.nil|(apply RS.tmp;(conv=>lhs;whnf))|(apply RS.cell1;(focus exact rfl);(focus (repeat (first|with_reducible exact ak.here|with_reducible apply ak.there|with_reducible apply ak.app)));(conv=>lhs;whnf))|(apply RS.sF;(focus exact rfl);(focus (repeat (first|with_reducible exact ak.here|with_reducible apply ak.there|with_reducible apply ak.app)));(conv=>lhs;whnf)))):p:=h
theorem nV{p:Prop}(h:p:=by(repeat (first|with_reducible exact aT .. |with_reducible apply bB));first|done|fail):p:=h
variable {P:Program}
section
variable {B:List Nat} {w0:Wd} {kl:List OA} {F:List aH} {K:KO} {ds:List Tmp} {rest:List aK} {n:Nat} {l:List (Nat×Value)} {D:List Deferred} {pm:Option FrameMode} {ro:Option Nat} {d:Nat} {g:Option (Tmp×Bool)}
theorem RJ{x i:Operand}{v:Value}{xs:List Int}{k:Nat}{kk:IntKind}(hn:Nat.blt d n=true)(hg:bn l g=true)(hx:ev l x=v)(hi:ev l i=.int kk (k:Int))(hf:ah au v xs∈F)(h1:k<xs.length):
 aV (R (λh=>ax P ds (⟨⟨some d,g,.dM 1 x i⟩,[]⟩::rest) (act n l D pm ro) h K) B w0 kl F)
  (∀b o z,xs[k]? =some z->R (λh=>ax P ds rest (act n ((d,.pointer (some ⟨b,o,none⟩))::l) D pm ro) h K) B w0 kl (dK b o [.int .i64 z]::F)):=
 ⟨λr=>(Ja hn hg hx hi hf (by omega) (by omega)).h λb o z hz=>r b o z (by simpa using hz)⟩
theorem RL{x i:Operand}{v:Value}{xs:List Bool}{k:Nat}{kk:IntKind}(hn:Nat.blt d n=true)(hg:bn l g=true)(hx:ev l x=v)(hi:ev l i=.int kk (k:Int))(hf:ah zZ v xs∈F)(h1:k<xs.length):
 aV (R (λh=>ax P ds (⟨⟨some d,g,.dM 1 x i⟩,[]⟩::rest) (act n l D pm ro) h K) B w0 kl F)
  (∀b o z,xs[k]? =some z->R (λh=>ax P ds rest (act n ((d,.pointer (some ⟨b,o,none⟩))::l) D pm ro) h K) B w0 kl (dK b o [.bool z]::F)):=
 ⟨λr=>(Jb hn hg hx hi hf (by omega) (by omega)).h λb o z hz=>r b o z (by simpa using hz)⟩
end
inductive Fill(ρ:Operand->Value):List Value->List (Nat×Nat×Operand)->List Value->Prop
 |nil {cs:List Value}:Fill ρ cs [] cs
 |cons {cs vs cs' r:List Value} {off size:Nat} {x:Operand} {parts:List (Nat×Nat×Operand)} {v:Value} (h0:ρ x=v) (h1:cellsOf v=some vs) (h2:Nat.beq (eY vs) size=true) (h3:eG cs off vs=some cs') (t:Fill ρ cs' parts r):Fill ρ cs ((off,size,x)::parts) r
theorem Fill.eq{ρ:Operand->Value}:∀{zero:List Value} {parts:List (Nat×Nat×Operand)} {cs:List Value},Fill ρ zero parts cs->lc ρ zero parts=some cs
 |_,_,_,.nil=>rfl
 |cs0,_,_,.cons (off:=off) (size:=size) (x:=x) (parts:=parts) h0 h1 h2 h3 t=>by
  have ih:=t.eq;show(match cellsOf (ρ x)with
   |none=>none
   |some vs=>cond (Nat.beq (eY vs) size) (match eG cs0 off vs with
    |some cs=>lc ρ cs parts
    |none=>none) none)=_
  simp only[h0,h1,h2,h3,cond,ih]
theorem RN{B:List Nat}{w0:Wd}{kl:List OA}{F:List aH}{K:KO}{ds:List Tmp}{rest:List aK}{n:Nat}{l:List (Nat×Value)}{D:List Deferred}{pm:Option FrameMode}{ro:Option Nat}{d:Nat}{g:Option (Tmp×Bool)}
 {t:TypeId} {len:Nat} {zero cs:List Value} {parts:List (Nat×Nat×Operand)} (hn:Nat.blt d n=true) (hg:bn l g=true) (hx:Fill (ev l) zero parts cs):
 aV (R (λh=>ax P ds (⟨⟨some d,g,.cu t len zero parts⟩,[]⟩::rest) (act n l D pm ro) h K) B w0 kl F)
 (∀b,R (λh=>ax P ds rest (act n ((d,.slice (some ⟨b,0,some 0⟩) len len)::l) D pm ro) h K) B w0 (pt b (.cells cs)::kl) F):=Rf hn hg hx.eq
theorem RO{B:List Nat}{w0:Wd}{kl:List OA}{F:List aH}{K:KO}{ds:List Tmp}{rest:List aK}{n:Nat}{l:List (Nat×Value)}{D:List Deferred}{pm:Option FrameMode}{ro:Option Nat}{d:Nat}{g:Option (Tmp×Bool)}
 {zero cs:List Value} {parts:List (Nat×Nat×Operand)} (hn:Nat.blt d n=true) (hg:bn l g=true) (hx:Fill (ev l) zero parts cs):
 aV (R (λh=>ax P ds (⟨⟨some d,g,.build zero parts⟩,[]⟩::rest) (act n l D pm ro) h K) B w0 kl F) (R (λh=>ax P ds rest (act n ((d,.agg ⟨cs⟩)::l) D pm ro) h K) B w0 kl F):=bY hn hg (QH hx.eq)
theorem iT{B:List Nat}{w0:Wd}{kl:List OA}{F:List aH}{α:Type}{E:Enc α}{v:Value}{xs:List α}{Q:IH->Prop}(hf:ah E v xs∈F)(h:∀a c,v=.slice a xs.length c->R Q B w0 kl F):R Q B w0 kl F:=λw s=>by
 obtain⟨a,c,e⟩:=I8 (s.facts _ hf);exact h a c e w s
section
variable {B:List Nat} {w0:Wd} {kl:List OA} {F:List aH} {K:KO} {ds:List Tmp} {rest:List aK} {n:Nat} {l:List (Nat×Value)} {D:List Deferred} {pm:Option FrameMode} {ro:Option Nat} {t1 t2:Nat}
theorem RP{e:Bool}(h1:e=false->R (λh=>ax P ds rest (act n ((t1,.bool false)::(t2,.bool false)::l) D pm ro) h K) B w0 kl F)(h2:e=true->R (λh=>ax P ds rest (act n ((t1,.bool true)::(t2,.bool true)::l) D pm ro) h K) B w0 kl F):
 R (λh=>ax P ds rest (act n ((t1,.bool e)::(t2,.bool e)::l) D pm ro) h K) B w0 kl F:=by
 cases e
 ·exact h1 rfl
 ·exact h2 rfl
end
section
variable {B:List Nat} {w0:Wd} {kl kl':List OA} {F:List aH} {K:KO} {ds:List Tmp} {rest:List aK} {n:Nat} {l:List (Nat×Value)} {D:List Deferred} {pm:Option FrameMode} {ro:Option Nat} {d:Nat} {g:Option (Tmp×Bool)}
theorem RQ{x:Operand}{t:TypeId}{v:Value}{cs:List Value}(hn:Nat.blt d n=true)(hg:bn l g=true)(hv:ev l x=v)(hx:cellsOf v=some cs):aV (R (λh=>ax P ds (⟨⟨some d,g,.box x t⟩,[]⟩::rest) (act n l D pm ro) h K) B w0 kl F)
 (∀b,R (λh=>ax P ds rest (act n ((d,.pointer (some ⟨b,0,none⟩))::l) D pm ro) h K) B w0 (pt b (.cells cs)::kl) F):=Re hn hg (by rw[hv];exact hx)
theorem RU{x y:Operand}{b o m:Nat}{cs vs c:List Value}{v:Value}(hg:bn l g=true)(hx:ev l x=.pointer (some ⟨b,o,none⟩))(hw:ev l y=v)(hy:cellsOf v=some vs)(hm:Nat.beq (eY vs) m=true)
 (hk:ak (pt b (.cells cs)) kl kl') (hv:eG cs o vs=some c):
 aV (R (λh=>ax P ds (⟨⟨none,g,.store m x y⟩,[]⟩::rest) (act n l D pm ro) h K) B w0 kl F) (R (λh=>ax P ds rest (act n l D pm ro) h K) B w0 (pt b (.cells c)::kl') F):=Rn hg hx (by rw[hw];exact hy) hm hk hv
end
theorem RV{B:List Nat}{w0:Wd}{kl:List OA}{F:List aH}{K:KO}{ds:List Tmp}{rest:List aK}{n:Nat}{l:List (Nat×Value)}{D:List Deferred}{pm:Option FrameMode}{ro:Option Nat}{d:Nat}{g:Option (Tmp×Bool)}
 {fn:Fn} {first captured:List Operand} {a b:List Value} (hn:Nat.blt d n=true) (hg:bn l g=true) (h1:EvL (ev l) first a) (h2:EvL (ev l) captured b):
 aV (R (λh=>ax P ds (⟨⟨some d,g,.ww fn first captured⟩,[]⟩::rest) (act n l D pm ro) h K) B w0 kl F) (R (λh=>ax P ds rest (act n ((d,.func fn ⟨a⟩ ⟨b⟩)::l) D pm ro) h K) B w0 kl F):=bY hn hg (QI h1 h2)
theorem go{G G':Prop}(x:G')(r:aV G G':=by
 repeat (first
  |((with_reducible apply aV.trans);first
   |with_reducible exact QJ
   |with_reducible exact QK
   |with_reducible exact QL
   |with_reducible exact QM
   |with_reducible exact QN
   |with_reducible exact QO
   |with_reducible exact QR
   |with_reducible exact QS
   |with_reducible exact QT
   |with_reducible exact QU
   |with_reducible exact QV
   |with_reducible exact QW
   |with_reducible exact QX
   |with_reducible exact QY
   |with_reducible exact QZ
   |with_reducible exact Q4
   |with_reducible exact Q5
   |with_reducible exact Q6
   |((with_reducible apply Q0);exact rfl)
   |((with_reducible apply Q3);exact rfl)
   |((with_reducible apply Q7);(focus exact rfl))
   |((with_reducible apply Q8);(focus exact rfl))
   |((with_reducible apply Ra);(focus exact rfl);(focus exact rfl))
   |((with_reducible apply RJ);(focus exact rfl);(focus exact rfl);(focus ((conv=>lhs;whnf);(first|done|fail)));(focus exact rfl);(focus (((repeat (first|with_reducible exact aT .. |with_reducible apply bB));first|done|fail);(first|done|fail)));(focus ((omega);(first|done|fail))))
   |((with_reducible apply RL);(focus exact rfl);(focus exact rfl);(focus ((conv=>lhs;whnf);(first|done|fail)));(focus exact rfl);(focus (((repeat (first|with_reducible exact aT .. |with_reducible apply bB));first|done|fail);(first|done|fail)));(focus ((omega);(first|done|fail))))
   |((with_reducible apply Ja);(focus exact rfl);(focus exact rfl);(focus ((conv=>lhs;whnf);(first|done|fail)));(focus exact rfl);(focus (((repeat (first|with_reducible exact aT .. |with_reducible apply bB));first|done|fail);(first|done|fail)));(focus ((omega);(first|done|fail)));(focus ((omega);(first|done|fail))))
   |((with_reducible apply Jb);(focus exact rfl);(focus exact rfl);(focus ((conv=>lhs;whnf);(first|done|fail)));(focus exact rfl);(focus (((repeat (first|with_reducible exact aT .. |with_reducible apply bB));first|done|fail);(first|done|fail)));(focus ((omega);(first|done|fail)));(focus ((omega);(first|done|fail))))
   |((with_reducible apply bY);(focus exact rfl);(focus exact rfl);(focus ((first|((with_reducible apply DW);(focus ((conv=>lhs;whnf);(first|done|fail))))|((with_reducible apply z8);(focus ((conv=>lhs;whnf);(first|done|fail))))|((with_reducible apply Aa);(focus exact rfl))|((with_reducible apply D6);(focus exact rfl);(focus exact rfl))|((with_reducible apply D7);(focus exact rfl);(focus exact rfl))|((with_reducible apply D8);(focus exact rfl);(focus exact rfl))|((with_reducible apply D9);(focus exact rfl);(focus exact rfl))|((with_reducible apply Ea);(focus exact rfl);(focus exact rfl))|((with_reducible apply Eb);(focus exact rfl);(focus exact rfl))|((with_reducible apply DZ);(focus exact rfl))|((with_reducible apply DX);(focus exact rfl);(focus ((conv=>lhs;whnf);(first|done|fail))))|((with_reducible apply DY);(focus exact rfl);(focus ((conv=>lhs;whnf);(first|done|fail))))|((with_reducible apply Ee);(focus exact rfl);(focus ((conv=>lhs;whnf);(first|done|fail))))|((with_reducible apply Ef);(focus exact rfl))|((with_reducible apply Eg);(focus exact rfl);(focus ((conv=>lhs;whnf);(first|done|fail))))|((with_reducible apply Eh);(focus exact rfl);(focus ((conv=>lhs;whnf);(first|done|fail))))|((with_reducible apply Ei);(focus ((conv=>lhs;whnf);(first|done|fail))))|((with_reducible apply Ej);(focus exact rfl))|((with_reducible apply El);(focus exact rfl))|((with_reducible apply Em);(focus exact rfl))|with_reducible exact D5|((with_reducible apply En);(focus exact rfl);(focus exact rfl);(focus exact rfl))|((with_reducible apply EA);(focus exact rfl);(focus exact rfl);(focus ((omega);(first|done|fail))))|((with_reducible apply Ab);(focus exact rfl);(focus exact rfl);(focus ((omega);(first|done|fail)));(focus ((omega);(first|done|fail))))|((with_reducible apply Eo);(focus exact rfl);(focus exact rfl);(focus ((omega);(first|done|fail)));(focus ((omega);(first|done|fail))))|((with_reducible apply Ec);(focus exact rfl);(focus exact rfl);(focus ((omega);(first|done|fail)));(focus ((omega);(first|done|fail))))|((with_reducible apply Ed);(focus exact rfl);(focus exact rfl);(focus ((omega);(first|done|fail)));(focus ((omega);(first|done|fail))))|((with_reducible apply Er);(focus exact rfl);(focus exact rfl);(focus ((first|assumption|kernel_rfl);(first|done|fail))))|((with_reducible apply Es);(focus exact rfl);(focus exact rfl);(focus ((first|assumption|kernel_rfl);(first|done|fail))))|((with_reducible apply Eu);(focus exact rfl);(focus exact rfl))|((with_reducible apply Ew);(focus exact rfl);(focus exact rfl))|((with_reducible apply Ey);(focus exact rfl);(focus exact rfl);(focus ((omega);(first|done|fail)));(focus ((omega);(first|done|fail)))));(first|done|fail))))
   |((with_reducible apply RV);(focus exact rfl);(focus exact rfl);(focus (repeat (first|with_reducible exact EvL.nil|((with_reducible apply EvL.cons);(conv=>lhs;whnf)))));(focus (repeat (first|with_reducible exact EvL.nil|((with_reducible apply EvL.cons);(conv=>lhs;whnf))))))
   |((with_reducible apply RN);(focus exact rfl);(focus exact rfl);(focus (repeat (first|with_reducible exact Fill.nil|((with_reducible apply Fill.cons);(conv=>lhs;whnf);(conv=>lhs;whnf);(focus exact rfl);(conv=>lhs;whnf))))))
   |((with_reducible apply RO);(focus exact rfl);(focus exact rfl);(focus (repeat (first|with_reducible exact Fill.nil|((with_reducible apply Fill.cons);(conv=>lhs;whnf);(conv=>lhs;whnf);(focus exact rfl);(conv=>lhs;whnf))))))
   |((with_reducible apply RQ);(focus exact rfl);(focus exact rfl);(focus ((conv=>lhs;whnf);(first|done|fail)));(focus ((conv=>lhs;whnf);(first|done|fail))))
   |((with_reducible apply Rc);(focus exact rfl);(focus exact rfl))
   |((with_reducible apply Ri);(focus exact rfl);(focus exact rfl);(focus exact rfl);(focus ((repeat (first|with_reducible exact ak.here|with_reducible apply ak.there|with_reducible apply ak.app));(first|done|fail)));(focus ((conv=>lhs;whnf);(first|done|fail))))
   |((with_reducible apply I7);(focus exact rfl);(focus exact rfl);(focus exact rfl);(focus ((repeat (first|with_reducible exact ak.here|with_reducible apply ak.there|with_reducible apply ak.app));(first|done|fail)));(focus ((conv=>lhs;whnf);(first|done|fail))))
   |((with_reducible apply Rj);(focus exact rfl);(focus exact rfl);(focus exact rfl);(focus (((repeat (first|with_reducible exact aT .. |with_reducible apply bB));first|done|fail);(first|done|fail)));(focus ((conv=>lhs;whnf);(first|done|fail))))
   |((with_reducible apply pO);(focus exact rfl);(focus exact rfl);(focus exact rfl);(focus (((repeat (first|with_reducible exact aT .. |with_reducible apply bB));first|done|fail);(first|done|fail)));(focus ((conv=>lhs;whnf);(first|done|fail))))
   |((with_reducible apply Rl);(focus exact rfl);(focus exact rfl);(focus exact rfl);(focus (((repeat (first|with_reducible exact aT .. |with_reducible apply bB));first|done|fail);(first|done|fail)));(focus ((conv=>lhs;whnf);(first|done|fail))))
   |((with_reducible apply Rm);(focus exact rfl);(focus exact rfl);(focus exact rfl);(focus (((repeat (first|with_reducible exact aT .. |with_reducible apply bB));first|done|fail);(first|done|fail)));(focus ((conv=>lhs;whnf);(first|done|fail))))
   |((with_reducible apply RU);(focus exact rfl);(focus exact rfl);(focus ((conv=>lhs;whnf);(first|done|fail)));(focus ((conv=>lhs;whnf);(first|done|fail)));(focus exact rfl);(focus ((repeat (first|with_reducible exact ak.here|with_reducible apply ak.there|with_reducible apply ak.app));(first|done|fail)));(focus ((conv=>lhs;whnf);(first|done|fail))))
   |((with_reducible apply Rs);(focus exact rfl);(focus exact rfl);(focus ((conv=>lhs;whnf);(first|done|fail)));(focus (((repeat (first|with_reducible exact aT .. |with_reducible apply bB));first|done|fail);(first|done|fail))))
   |((with_reducible apply Rt);(focus exact rfl);(focus exact rfl);(focus ((conv=>lhs;whnf);(first|done|fail)));(focus ((repeat (first|with_reducible exact ak.here|with_reducible apply ak.there|with_reducible apply ak.app));(first|done|fail))))
   |((with_reducible apply RB (re:=_::_));(focus exact rfl);(focus exact rfl);(focus ((first|((with_reducible apply DW);(focus ((conv=>lhs;whnf);(first|done|fail))))|((with_reducible apply z8);(focus ((conv=>lhs;whnf);(first|done|fail))))|((with_reducible apply Aa);(focus exact rfl))|((with_reducible apply D6);(focus exact rfl);(focus exact rfl))|((with_reducible apply D7);(focus exact rfl);(focus exact rfl))|((with_reducible apply D8);(focus exact rfl);(focus exact rfl))|((with_reducible apply D9);(focus exact rfl);(focus exact rfl))|((with_reducible apply Ea);(focus exact rfl);(focus exact rfl))|((with_reducible apply Eb);(focus exact rfl);(focus exact rfl))|((with_reducible apply DZ);(focus exact rfl))|((with_reducible apply DX);(focus exact rfl);(focus ((conv=>lhs;whnf);(first|done|fail))))|((with_reducible apply DY);(focus exact rfl);(focus ((conv=>lhs;whnf);(first|done|fail))))|((with_reducible apply Ee);(focus exact rfl);(focus ((conv=>lhs;whnf);(first|done|fail))))|((with_reducible apply Ef);(focus exact rfl))|((with_reducible apply Eg);(focus exact rfl);(focus ((conv=>lhs;whnf);(first|done|fail))))|((with_reducible apply Eh);(focus exact rfl);(focus ((conv=>lhs;whnf);(first|done|fail))))|((with_reducible apply Ei);(focus ((conv=>lhs;whnf);(first|done|fail))))|((with_reducible apply Ej);(focus exact rfl))|((with_reducible apply El);(focus exact rfl))|((with_reducible apply Em);(focus exact rfl))|with_reducible exact D5|((with_reducible apply En);(focus exact rfl);(focus exact rfl);(focus exact rfl))|((with_reducible apply EA);(focus exact rfl);(focus exact rfl);(focus ((omega);(first|done|fail))))|((with_reducible apply Ab);(focus exact rfl);(focus exact rfl);(focus ((omega);(first|done|fail)));(focus ((omega);(first|done|fail))))|((with_reducible apply Eo);(focus exact rfl);(focus exact rfl);(focus ((omega);(first|done|fail)));(focus ((omega);(first|done|fail))))|((with_reducible apply Ec);(focus exact rfl);(focus exact rfl);(focus ((omega);(first|done|fail)));(focus ((omega);(first|done|fail))))|((with_reducible apply Ed);(focus exact rfl);(focus exact rfl);(focus ((omega);(first|done|fail)));(focus ((omega);(first|done|fail))))|((with_reducible apply Er);(focus exact rfl);(focus exact rfl);(focus ((first|assumption|kernel_rfl);(first|done|fail))))|((with_reducible apply Es);(focus exact rfl);(focus exact rfl);(focus ((first|assumption|kernel_rfl);(first|done|fail))))|((with_reducible apply Eu);(focus exact rfl);(focus exact rfl))|((with_reducible apply Ew);(focus exact rfl);(focus exact rfl))|((with_reducible apply Ey);(focus exact rfl);(focus exact rfl);(focus ((omega);(first|done|fail)));(focus ((omega);(first|done|fail)))));(first|done|fail)));(focus ((repeat (first|exact nU|refine mV rfl (by repeat (first|with_reducible exact ak.here|with_reducible apply ak.there|with_reducible apply ak.app)) (by first|exact rfl|(conv=>lhs;whnf)) rfl ?_|refine xQ rfl (by(repeat (first|with_reducible exact aT .. |with_reducible apply bB));first|done|fail) (by first|exact rfl|(conv=>lhs;whnf)) rfl ?_|refine xR rfl (by(repeat (first|with_reducible exact aT .. |with_reducible apply bB));first|done|fail) (by first|exact rfl|(conv=>lhs;whnf)) rfl ?_|refine xS rfl (by repeat (first|with_reducible exact ak.here|with_reducible apply ak.there|with_reducible apply ak.app)) (by first|exact rfl|(conv=>lhs;whnf)) rfl ?_|refine xU rfl (by(repeat (first|with_reducible exact aT .. |with_reducible apply bB));first|done|fail) (by first|exact rfl|(conv=>lhs;whnf)) rfl ?_|refine xV rfl (by(repeat (first|with_reducible exact aT .. |with_reducible apply bB));first|done|fail) (by first|exact rfl|(conv=>lhs;whnf)) rfl ?_));(first|done|fail))))
   |((with_reducible apply RA (re:=_::_));(focus exact rfl);(focus exact rfl);(focus ((conv=>lhs;whnf);(first|done|fail)));(focus ((conv=>lhs;whnf);(first|done|fail)));(focus exact rfl);(focus ((repeat (first|with_reducible exact ak.here|with_reducible apply ak.there|with_reducible apply ak.app));(first|done|fail)));(focus ((conv=>lhs;whnf);(first|done|fail)));(focus ((repeat (first|exact nU|refine mV rfl (by repeat (first|with_reducible exact ak.here|with_reducible apply ak.there|with_reducible apply ak.app)) (by first|exact rfl|(conv=>lhs;whnf)) rfl ?_|refine xQ rfl (by(repeat (first|with_reducible exact aT .. |with_reducible apply bB));first|done|fail) (by first|exact rfl|(conv=>lhs;whnf)) rfl ?_|refine xR rfl (by(repeat (first|with_reducible exact aT .. |with_reducible apply bB));first|done|fail) (by first|exact rfl|(conv=>lhs;whnf)) rfl ?_|refine xS rfl (by repeat (first|with_reducible exact ak.here|with_reducible apply ak.there|with_reducible apply ak.app)) (by first|exact rfl|(conv=>lhs;whnf)) rfl ?_|refine xU rfl (by(repeat (first|with_reducible exact aT .. |with_reducible apply bB));first|done|fail) (by first|exact rfl|(conv=>lhs;whnf)) rfl ?_|refine xV rfl (by(repeat (first|with_reducible exact aT .. |with_reducible apply bB));first|done|fail) (by first|exact rfl|(conv=>lhs;whnf)) rfl ?_));(first|done|fail))))
   |fail)
  |((with_reducible apply aV.all);intro _)
  |with_reducible apply aV.imp)
 with_reducible exact aV.refl _):G:=r.h x
theorem gJ.sub{α:Type}{F0:List α}:∀{F:List α},gJ F0 F->Sub F0 F:=λ{F} h=>by
 have:∀k:List α,(∀x∈k,x∈F)->Sub k F:=by
  intro k;induction k with
  |nil=>intro _;exact .nil
  |cons a k ih=>intro hk;exact .cons (hk a (aT ..)) (ih λx hx=>hk x (bB _ hx))
 exact this F0 h.mem
inductive bR{α:Type}:List α->List α->List α->Prop
 |nil {l:List α}:bR [] l l
 |cons {a:α} {k l m:List α} (h:bR k l m):bR (a::k) l (a::m)
 |self {k:List α}:bR k [] k
 |app {k l:List α}:bR k l (k++l)
theorem bR.eq{α:Type}:∀{k l m:List α},bR k l m->k++l=m
 |_,_,_,.nil=>rfl
 |_,_,_,.self=>jR _
 |_,_,_,.app=>rfl
 |_,_,_,.cons h=>by rw[ul,h.eq]
section
variable {B:List Nat} {w0:Wd} {kl kl' cZ:List OA} {F:List aH} {K:KO} {ds:List Tmp} {rest:List aK} {n:Nat} {l:List (Nat×Value)} {D:List Deferred} {pm:Option FrameMode} {ro:Option Nat} {d:Nat} {g:Option (Tmp×Bool)}
theorem aF{Y:Type}{f:Operand}{xs:List Operand}{re:List dN}{fn:Fn}{first captured vs as:List Value}{k1:List OA}{F1:List aH}{val:Y->Value}{k1':Y->List OA}{fs:Y->List aH}{pr:Y->Prop}{lD:Y->List OA}{F2:Y->List aH}
 (hc:bJ P fn as captured k1 F1 val k1' fs pr) (hn:Nat.blt d n=true:=by rfl) (hg:bn l g=true:=by rfl) (hf:ev l f=.func fn ⟨first⟩ ⟨captured⟩:=by rfl) (hx:EvL (ev l) xs vs:=by repeat (first|with_reducible exact EvL.nil|((with_reducible apply EvL.cons);(conv=>lhs;whnf)))) (ha:first++vs=as:=by rfl)
 (hk:bI k1 kl cZ:=by exact Ag) (hF:Sub F1 F:=by exact vg)
 (hak:∀y,bR (k1' y) cZ (lD y):=by intro y;repeat (first|exact bR.nil|apply bR.cons|exact bR.self|exact bR.app)) (Ah:∀y,bR (fs y) F (F2 y):=by intro y;repeat (first|exact bR.nil|apply bR.cons|exact bR.self|exact bR.app))
 (hs:∀y,pr y->Same P re (ev ((d,val y)::l)) ((d,val y)::l) B w0 (lD y) (F2 y):=by intro _ _;repeat (first|exact nU|refine mV rfl (by repeat (first|with_reducible exact ak.here|with_reducible apply ak.there|with_reducible apply ak.app)) (by first|exact rfl|(conv=>lhs;whnf)) rfl ?_|refine xQ rfl (by(repeat (first|with_reducible exact aT .. |with_reducible apply bB));first|done|fail) (by first|exact rfl|(conv=>lhs;whnf)) rfl ?_|refine xR rfl (by(repeat (first|with_reducible exact aT .. |with_reducible apply bB));first|done|fail) (by first|exact rfl|(conv=>lhs;whnf)) rfl ?_|refine xS rfl (by repeat (first|with_reducible exact ak.here|with_reducible apply ak.there|with_reducible apply ak.app)) (by first|exact rfl|(conv=>lhs;whnf)) rfl ?_|refine xU rfl (by(repeat (first|with_reducible exact aT .. |with_reducible apply bB));first|done|fail) (by first|exact rfl|(conv=>lhs;whnf)) rfl ?_|refine xV rfl (by(repeat (first|with_reducible exact aT .. |with_reducible apply bB));first|done|fail) (by first|exact rfl|(conv=>lhs;whnf)) rfl ?_|refine Rz (by first|((with_reducible apply DW);(focus ((conv=>lhs;whnf);(first|done|fail))))|((with_reducible apply z8);(focus ((conv=>lhs;whnf);(first|done|fail))))|((with_reducible apply Aa);(focus exact rfl))|((with_reducible apply D6);(focus exact rfl);(focus exact rfl))|((with_reducible apply D7);(focus exact rfl);(focus exact rfl))|((with_reducible apply D8);(focus exact rfl);(focus exact rfl))|((with_reducible apply D9);(focus exact rfl);(focus exact rfl))|((with_reducible apply Ea);(focus exact rfl);(focus exact rfl))|((with_reducible apply Eb);(focus exact rfl);(focus exact rfl))|((with_reducible apply DZ);(focus exact rfl))|((with_reducible apply DX);(focus exact rfl);(focus ((conv=>lhs;whnf);(first|done|fail))))|((with_reducible apply DY);(focus exact rfl);(focus ((conv=>lhs;whnf);(first|done|fail))))|((with_reducible apply Ee);(focus exact rfl);(focus ((conv=>lhs;whnf);(first|done|fail))))|((with_reducible apply Ef);(focus exact rfl))|((with_reducible apply Eg);(focus exact rfl);(focus ((conv=>lhs;whnf);(first|done|fail))))|((with_reducible apply Eh);(focus exact rfl);(focus ((conv=>lhs;whnf);(first|done|fail))))|((with_reducible apply Ei);(focus ((conv=>lhs;whnf);(first|done|fail))))|((with_reducible apply Ej);(focus exact rfl))|((with_reducible apply El);(focus exact rfl))|((with_reducible apply Em);(focus exact rfl))|with_reducible exact D5|((with_reducible apply En);(focus exact rfl);(focus exact rfl);(focus exact rfl))|((with_reducible apply EA);(focus exact rfl);(focus exact rfl);(focus ((omega);(first|done|fail))))|((with_reducible apply Ab);(focus exact rfl);(focus exact rfl);(focus ((omega);(first|done|fail)));(focus ((omega);(first|done|fail))))|((with_reducible apply Eo);(focus exact rfl);(focus exact rfl);(focus ((omega);(first|done|fail)));(focus ((omega);(first|done|fail))))|((with_reducible apply Ec);(focus exact rfl);(focus exact rfl);(focus ((omega);(first|done|fail)));(focus ((omega);(first|done|fail))))|((with_reducible apply Ed);(focus exact rfl);(focus exact rfl);(focus ((omega);(first|done|fail)));(focus ((omega);(first|done|fail))))|((with_reducible apply Er);(focus exact rfl);(focus exact rfl);(focus ((first|assumption|kernel_rfl);(first|done|fail))))|((with_reducible apply Es);(focus exact rfl);(focus exact rfl);(focus ((first|assumption|kernel_rfl);(first|done|fail))))|((with_reducible apply Eu);(focus exact rfl);(focus exact rfl))|((with_reducible apply Ew);(focus exact rfl);(focus exact rfl))|((with_reducible apply Ey);(focus exact rfl);(focus exact rfl);(focus ((omega);(first|done|fail)));(focus ((omega);(first|done|fail))))) rfl ?_))
 (next:∀y,pr y->R (λh=>ax P ds rest (act n ((d,val y)::l) D pm ro) h K) B w0 (lD y) (F2 y)):
 R (λh=>ax P ds (⟨⟨some d,g,.call f xs⟩,re⟩::rest) (act n l D pm ro) h K) B w0 kl F:=
 RD hc hn hg hf hx ha hk hF (λy hy=>by rw[(hak y).eq,(Ah y).eq];exact hs y hy) (λy hy=>by rw[(hak y).eq,(Ah y).eq];exact next y hy)
abbrev fG(P:Program)(f:FuncId)(args:List Value)(F:List aH)(v:Value):Prop:=bJ P (.func f) args [] [] F (λ_:Unit=>v) (λ_=>[]) (λ_=>[]) (λ_=>True)
theorem bq{Y:Type}{f:FuncId}{args cap:List Value}{kl:List OA}{F:List aH}{val:Y->Value}{kl':Y->List OA}{fs:Y->List aH}{pr:Y->Prop}{c:bu}{m:Nat}{l0:List (Nat×Value)}(cf:dS)(hF:(nN P oU wM).F f=some cf)
 (hb:∀B w0,R (λh=>EV P c (act m l0 [] none none) h (xJ cf (Left B w0 val kl' fs pr))) B w0 kl F)
 (h1:cf.body=c:=by conv=>lhs;(reduce;(try simp only[Int.reduceOfNat,Int.reduceNegSucc]))) (h2:qC cf.ntmps (eY (args++cap))=m:=by conv=>lhs;whnf) (h3:ve 0 (args++cap) []=l0:=by dsimp only[ve,Nat.reduceAdd,List.append_nil,List.cons_append,List.nil_append]):bJ P (.func f) args cap kl F val kl' fs pr:=
 Rx cf hF (by rw[h1,h2,h3];exact hb)
theorem dh{α:Type}(E:Enc α){x i:Operand}{v:Value}{xs:List α}{size:Nat}{k:Nat}{kk:IntKind}{F2:α->E.Y->List aH}(hn:Nat.blt d n=true:=by rfl)(hg:bn l g=true:=by rfl)(hx:ev l x=v:=by conv=>lhs;whnf)(hi:ev l i=.int kk (k:Int):=by rfl)
 (hf:ah E v xs∈F:=by exact nV) (hs:E.n=size:=by rfl) (h1:k<xs.length:=by omega)
 (ha:∀z y,bR (E.fs z y) F (F2 z y):=by intro z y;repeat (first|exact bR.nil|apply bR.cons|exact bR.self|exact bR.app))
 (next:∀b o z y,xs[k]? =some z->R (λh=>ax P ds rest (act n ((d,.pointer (some ⟨b,o,none⟩))::l) D pm ro) h K) B w0 kl (dK b o (E.pat z y)::F2 z y)):
 R (λh=>ax P ds (⟨⟨some d,g,.dM size x i⟩,[]⟩::rest) (act n l D pm ro) h K) B w0 kl F:=
 (Ep hn hg hx hi hf hs (by omega) (by omega)).h λb o z y hz=>by rw[(ha z y).eq];exact next b o z y (by simpa using hz)
theorem av{Y:Type}{o:Out}{cf:dS}{vs:List Value}{val:Y->Value}{k1:Y->List OA}{fs:Y->List aH}{pr:Y->Prop}(y:Y)
 (hr:RS l kl cf.results vs:=by exact RI) (hv:Je vs=val y:=by rfl) (hp:pr y)
 (hk:bI (k1 y) kl cZ:=by exact Ag) (hF:Sub (fs y) F:=by exact vg)
 (ho:o=.normal\/o=.ret:=by first|exact .inl rfl|exact .inr rfl):R (λh=>xJ cf (Left B w0 val k1 fs pr) o (act n l [] none ro) h) B w0 kl F:=
 RF y hr hv hp hk hF ho
theorem dB{A:OA}{fs F2:List aH}{Q:IH->Prop}(hA:tu A fs)(hk:ak A kl kl':=by exact gP)(ha:bR fs F F2:=by repeat (first|exact bR.nil|apply bR.cons|exact bR.self|exact bR.app))(h:R Q B w0 kl' F2):R Q B w0 kl F:=
 Ru hA hk (by rw[ha.eq];exact h)
theorem dZ{X:Type}{c:bu}{l0:List (Nat×Value)}{L2:X->List (Nat×Value)}{Jf:X->List OA}{Jg:X->List aH}(m:X->Nat)(L:X->List (Nat×Value))(KL:X->List OA)(FF:X->List aH)(inv:X->Prop)(x0:X)(hi:inv x0)
 (h0:pQ l (L x0) l0:=by repeat (first|exact pQ.nil|(apply pQ.drop;(focus exact rfl))|(apply pQ.keep;(focus exact rfl)))) (hl:sub (L x0++l0) l:=by repeat (first|exact trivial|refine⟨rfl,?_⟩))
 (hk:bI (KL x0) kl cZ:=by exact Ag) (hF:Sub (FF x0) F:=by exact vg)
 (hak:∀x,bR (KL x) cZ (Jf x):=by intro y;repeat (first|exact bR.nil|apply bR.cons|exact bR.self|exact bR.app)) (Ah:∀x,bR (FF x) F (Jg x):=by intro y;repeat (first|exact bR.nil|apply bR.cons|exact bR.self|exact bR.app))
 (hal:∀x,bR (L x) l0 (L2 x):=by intro y;repeat (first|exact bR.nil|apply bR.cons|exact bR.self|exact bR.app))
 (body:∀x,inv x->R (λh=>EV P c (act n (L2 x) D pm ro) h (pK (LI n D pm ro B w0 m L KL FF inv l0 cZ F) (m x) K)) B w0 (Jf x) (Jg x)):
 R (λh=>EV P (.loop c) (act n l D pm ro) h K) B w0 kl F:=
 RG m L KL FF inv x0 hi l0 hl hk hF λx hx=>by rw[(hak x).eq,(Ah x).eq,(hal x).eq];exact body x hx
theorem bC{X:Type}{m:X->Nat}{L:X->List (Nat×Value)}{KL:X->List OA}{FF:X->List aH}{inv:X->Prop}{l0:List (Nat×Value)}{Jh lD:List OA}{F0:List aH}{m0:Nat}(x:X)(hm:m x<m0)(hi:inv x)
 (hl:sub (L x++l0) l:=by repeat (first|exact trivial|refine⟨rfl,?_⟩)) (ha:bR (KL x) cZ Jh:=by repeat (first|exact bR.nil|apply bR.cons|exact bR.self|exact bR.app))
 (hk:bI Jh kl lD:=by exact Ag) (hF:Sub (FF x) F:=by exact vg)
 (qY:gJ F0 F:=by repeat (first|exact gJ.here|apply gJ.cons|apply gJ.app)):
 R (λh=>pK (LI n D pm ro B w0 m L KL FF inv l0 cZ F0) m0 K .normal (act n l D pm ro) h) B w0 kl F:=
 RH x hm hi hl (by rw[ha.eq];exact hk) hF qY
end
end Go.Ideal
namespace Go.Ideal
class vk (e:Bool) (f t:outParam Prop):Prop where
 no:e=false->f
 yes:e=true->t
instance (priority:=low) XA {e:Bool}:vk e (e=false) (e=true):=⟨id,id⟩
instance XB {p:Prop} {_:Decidable p}:vk (decide p) (¬p) p:=⟨of_decide_eq_false,BI⟩
instance XC {p:Prop} {_:Decidable p}:vk (!decide p) p (¬p):=⟨λe=>by simpa using e,λe=>by simpa using e⟩
section
variable {P:Program}
variable {B:List Nat} {w0:Wd} {kl:List OA} {F:List aH} {K:KO} {ds:List Tmp} {rest:List aK} {n:Nat} {l:List (Nat×Value)} {D:List Deferred} {pm:Option FrameMode} {ro:Option Nat} {t1 t2:Nat}
theorem gG{e:Bool}{f t:Prop}[vk e f t](h1:f->R (λh=>ax P ds rest (act n ((t1,.bool false)::(t2,.bool false)::l) D pm ro) h K) B w0 kl F)(h2:t->R (λh=>ax P ds rest (act n ((t1,.bool true)::(t2,.bool true)::l) D pm ro) h K) B w0 kl F):
 R (λh=>ax P ds rest (act n ((t1,.bool e)::(t2,.bool e)::l) D pm ro) h K) B w0 kl F:=
 RP (λx=>h1 (vk.no x)) (λx=>h2 (vk.yes x))
end
section
instance XD {n:Nat}:OfNat Operand n:=⟨.tmp n⟩
abbrev kI(n:Int):Operand:=.const (.int .i64 n)
abbrev kT:Operand:=.const (.bool true)
abbrev kF:Operand:=.const (.bool false)
abbrev vI:Value:=.int .i64 0
abbrev vS:Value:=.slice none 0 0
abbrev vE:Value:=.string ⟨⟨[]⟩⟩
abbrev kC(f:Nat)(l:List Operand):ae:=.call (.func f) l
abbrev kS(n:Nat)(e:ae):aK:=⟨⟨some n,none,e⟩,[]⟩
abbrev kG(n c:Nat)(e:ae):aK:=⟨⟨some n,some ⟨c,true⟩,e⟩,[]⟩
abbrev kH(n c:Nat)(e:ae):aK:=⟨⟨some n,some ⟨c,false⟩,e⟩,[]⟩
abbrev kN(e:ae):aK:=⟨⟨none,none,e⟩,[]⟩
abbrev kM(n:Nat)(x:Operand):aK:=kS n (.mv x)
abbrev kO(l:List aK):bu:=.ops (l.filterMap λx=>x.s.dst) l
end
end Go.Ideal
namespace Go.Ideal
noncomputable def Ai(L:Lay):Wd:=⟨fK L,λi=>i<(fK L).next,λ_ h=>h⟩
end Go.Ideal
namespace Go.Ideal
open Go.ChangeShapes Go.WideShapes Go.ChangeAt Go.RowKit
variable {P:Program}
def vB{α:Type}(P:Program)(t:TypeId)(E:Enc α):Prop:=∀(w:Wd) (H:Type) (d:DataW H) (cs:List Value),(∀i,i<w.h.next->w.z i)->dY P w.h t cs d->∃a y,cs=E.pat a y/\∀f∈E.fs a y,f.p w
theorem EB{α:Type}{p:Nat->α->Prop}:∀n,(∀k,k<n->∃a,p k a)->∃l:List α,l.length=n/\∀(k:Nat) a,l[k]? =some a->p k a
 |0,_=>⟨[],rfl,λk a h=>by cases h⟩
 |n+1,h=>by
  obtain⟨l,h1,h2⟩:=EB n (λk hk=>h k (by omega));obtain⟨a,ha⟩:=h n (by omega);refine⟨l++[a],by simp[h1],λk b hb=>?_⟩;by_cases hk:k<l.length
  ·rw[jE hk]at hb;exact h2 k b hb
  ·rw[ny (by omega)]at hb;have hk0:k=n:=by have:=(fH.1 hb).1;simp at this;omega
   subst hk0;rw[h1]at hb;simp at hb;subst hb;exact ha
def Ji{α β:Type}(E1:Enc α)(E2:Enc β):Enc (α×β):=⟨E1.n+E2.n,E1.Y×E2.Y,λa y=>E1.pat a.1 y.1++E2.pat a.2 y.2,λa y=>E1.fs a.1 y.1++E2.fs a.2 y.2,λa y=>by rw[fE,E1.len,E2.len]⟩
def Jj:Enc Unit:=⟨0,Unit,λ_ _=>[],λ_ _=>[],λ_ _=>rfl⟩
inductive vC(P:Program):{α:Type}->List Field->Enc α->Prop
 |nil:vC P [] Jj
 |cons {α β:Type} {f:Field} {fs:List Field} {E1:Enc α} {E2:Enc β} (h:vB P f.type E1) (hn:P.cellsOf f.type=E1.n) (t:vC P fs E2):vC P (f::fs) (Ji E1 E2)
theorem vC.Aj{w:Wd}{H:Type}(hz:∀i,i<w.h.next->w.z i):∀{α:Type} {fs:List Field} {E:Enc α},vC P fs E->∀(o0:Nat) (cs:List Value) (ds:List (DataW H)),cs.length=(fs.map λf=>P.cellsOf f.type).sum->ds.length=fs.length->
 fs.map (·.offset)=sums o0 (fs.map λf=>P.cellsOf f.type)->(∀(j:Nat) f d,fs[j]? =some f->ds[j]? =some d->dY P w.h f.type ((cs.drop (f.offset - o0)).take (P.cellsOf f.type)) d)->∃a y,cs=E.pat a y/\∀f∈E.fs a y,f.p w
 |_,_,_,.nil,o0,cs,ds,h1,h2,h3,h4=>⟨(),(),nA.1 (by simpa using h1),λf hf=>by cases hf⟩
 |_,_,_,.cons (f:=f) (fs:=fs) (E1:=E1) (E2:=E2) h hn t,o0,cs,ds,h1,h2,h3,h4=>by
  match ds,h2 with
  |d::ds,h2=>
   simp only[oI,List.sum_cons,sums,wh]at h1 h3;obtain⟨ho,h3⟩:=h3;have r0:=h4 0 f d rfl rfl;rw[ho,Nat.sub_self,wo]at r0;obtain⟨a,y,q1,q2⟩:=h w H d _ hz r0;obtain⟨b,z,u1,u2⟩:=vC.Aj hz t (o0+P.cellsOf f.type) (cs.drop (P.cellsOf f.type)) ds (by rw[jQ];omega) (by simpa using h2) h3 (λj g e hg he=>by
    have:=h4 (j+1) g e hg he;rw[List.drop_drop];have hle:o0+P.cellsOf f.type<=g.offset:=by
     have hj:(fs.map (·.offset))[j]? =some g.offset:=by rw[bT,hg];rfl
     rw[h3]at hj;have hs:(fs.map λf=>P.cellsOf f.type)[j]? =some (P.cellsOf g.type):=by rw[bT,hg];rfl
     exact(qV _ ([]:List Value) (o0+P.cellsOf f.type) j _ _ hj hs).2
    rw[show P.cellsOf f.type+(g.offset - (o0+P.cellsOf f.type))=g.offset - o0 by omega];exact this)
   refine⟨(a,b),(y,z),?_,?_⟩
   ·show cs=E1.pat a y++E2.pat b z;rw[<- q1,<- u1,rZ]
   ·intro g hg;rcases gZ.1 hg with hg|hg
    ·exact q2 g hg
    ·exact u2 g hg
theorem vB.conv{α β:Type}{t:TypeId}{E:Enc α}{E':Enc β}(h:vB P t E)(hc:∀a y,∃b z,E.pat a y=E'.pat b z/\E.fs a y=E'.fs b z):vB P t E':=λw H d cs hz r=>by
 obtain⟨a,y,q1,q2⟩:=h w H d cs hz r;obtain⟨b,z,e1,e2⟩:=hc a y;exact⟨b,z,by rw[q1,e1],λf hf=>q2 f (by rw[e2];exact hf)⟩
section
variable {H:Type} {enc:TypeId×Value->H} {W:World} {K:TypeId->Prop}
def nW(P:Program)(w:Wd)(t:TypeId)(v:Value){H:Type}(d:DataW H):Prop:=∃cs,dY P w.h t cs d/\((fu P t=true/\v=.agg ⟨cs⟩)\/(fu P t=false/\cs=[v]))
theorem nW.agg{α:Type}{w:Wd}{t:TypeId}{v:Value}{d:DataW H}{E:Enc α}(h:nW P w t v d)(hz:∀i,i<w.h.next->w.z i)(ha:fu P t=true)(hr:vB P t E):∃a y,v=.agg ⟨E.pat a y⟩/\∀f∈E.fs a y,f.p w:=by
 obtain⟨cs,r,⟨_,e⟩|⟨e,_⟩⟩:=h
 ·obtain⟨a,y,rfl,q⟩:=hr w H d cs hz r;exact⟨a,y,e,q⟩
 ·rw[ha]at e;cases e
theorem nW.one{α:Type}{w:Wd}{t:TypeId}{v:Value}{d:DataW H}{E:Enc α}(h:nW P w t v d)(hz:∀i,i<w.h.next->w.z i)(ha:fu P t=false)(hr:vB P t E):∃a y,E.pat a y=[v]/\∀f∈E.fs a y,f.p w:=by
 obtain⟨cs,r,⟨e,_⟩|⟨_,e⟩⟩:=h
 ·rw[ha]at e;cases e
 ·obtain⟨a,y,q0,q⟩:=hr w H d cs hz r;exact⟨a,y,by rw[<- q0,e],q⟩
theorem RX{L:Lay}{t:TypeId}{v v0:Value}{d:DataW H}{w:Wd}(hw:w.h=fK L)(r:qW P (fK L) t v d)(hv:VR (fB L) v v0)(hok:Value.okWide P W .any 0 t v0):nW P w t v d:=by
 obtain⟨cs,r1,h2,h3⟩:=r;refine⟨cs,by rw[hw];exact r1,?_⟩;cases ha:fu P t with
 |true=>
  left;refine⟨rfl,?_⟩;rcases h3 with e|e
  ·subst e;have hagg:∃c,v0=.agg c:=by
    unfold fu at ha;unfold Value.okWide at hok;split at ha
    ·rename_i fs hu;rw[hu]at hok;obtain⟨c,e,_⟩:=hok;exact⟨c,e⟩
    ·rename_i n e hu;rw[hu]at hok;obtain⟨c,e,_⟩:=hok;exact⟨c,e⟩
    ·cases ha
   obtain⟨c,rfl⟩:=hagg
   exfalso
   cases hv<;>simp[cellV]at h2
  ·exact e
 |false=>
  right;refine⟨rfl,?_⟩;rcases h3 with e|e
  ·exact e
  ·subst e
   exfalso
   cases hv with
   |agg hc hl=>
    cases hu:P.underlying t with
    |none=>simp[Value.okWide,Cell.okWide,Cell.ok,hu]at hok
    |some d=>cases d<;>simp[Value.okWide,Cell.okWide,Cell.ok,fu,hu]at hok ha
theorem RY{ts:List TypeId}{vs' vs:List Value}{L:Lay}(hv:aA (fB L) vs' vs):∀(j:Nat) v',vs'[j]? =some v'->∃v,vs[j]? =some v/\VR (fB L) v' v:=by
 intro j;induction j generalizing vs' vs with
 |zero=>
  intro v' h;cases hv with
  |nil=>cases h
  |cons h1 h2=>cases h;exact⟨_,rfl,h1⟩
 |succ j ih=>
  intro v' h;cases hv with
  |nil=>cases h
  |cons h1 h2=>exact ih h2 v' h
theorem Jk{a:Nat}{b:Nat->Bool}{c:Bool}:∀{ts:List TypeId} {vs:List Value} {ds:List (DataW H)} {ps:List MemPlace},DataW.TrodAll enc P W a b c ts vs ds ps->vs.length=ts.length/\ds.length=ts.length
 |[],[],[],_,_=>⟨rfl,rfl⟩
 |_::_,_::_,_::_,_,⟨_,_,_,h,_⟩=>by
  have:=Jk h;simp[this.1,this.2]
theorem Jl{α:Type}{l:List α}(h:l.length=4):∃a b c d,l=[a,b,c,d]:=by
 match l,h with
 |[a,b,c,d],_=>exact⟨a,b,c,d,rfl⟩
end
