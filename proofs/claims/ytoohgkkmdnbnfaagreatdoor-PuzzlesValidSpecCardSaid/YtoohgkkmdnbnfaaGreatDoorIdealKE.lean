/-
  The ideal machine, 53: the road through what needs no thought; lists put in order.
-/
import Derived.Test.YtoohgkkmdnbnfaaGreatDoorIdealJE
import Derived.Test.YtoohgkkmdnbnfaaGreatDoorIdealIE
set_option linter.all false
namespace Go.Ideal
theorem jV{p:Prop}(h:p:=by repeat (first|exact Sub.nil|(apply Sub.cons;(focus ((repeat (first|with_reducible exact bF .. |with_reducible apply bB));first|done|fail)))|exact ja.sub (by repeat (first|with_reducible exact ja.here|with_reducible apply ja.cons|with_reducible apply ja.app)))):p:=h
theorem kG{p:Prop}(h:p:=by repeat (first|exact aM.nil|(apply aM.cons;(focus (repeat (first|with_reducible exact aj.here|with_reducible apply aj.there|with_reducible apply aj.app))))|with_reducible exact aM.all _|with_reducible exact aM.self _ _|with_reducible apply aM.there)):p:=h
theorem fE{p:Prop}(h:p:=by repeat (first|with_reducible exact aj.here|with_reducible apply aj.there|with_reducible apply aj.app)):p:=h
theorem xS{p:Prop}(h:p:=by repeat (first|exact RS.nil|(apply RS.tmp;(conv=>lhs;whnf))|(apply RS.cell1;(focus exact rfl);(focus (repeat (first|with_reducible exact aj.here|with_reducible apply aj.there|with_reducible apply aj.app)));(conv=>lhs;whnf))|(apply RS.nK;(focus exact rfl);(focus (repeat (first|with_reducible exact aj.here|with_reducible apply aj.there|with_reducible apply aj.app)));(conv=>lhs;whnf)))):p:=h
theorem um{p:Prop}(h:p:=by(repeat (first|with_reducible exact bF .. |with_reducible apply bB));first|done|fail):p:=h
variable {P:Program}
section
variable {B:List Nat} {w0:Wd} {kl:List OA} {F:List aB} {K:KO} {ds:List Tmp} {rest:List bz} {n:Nat} {l:List (Nat×Value)} {D:List Deferred} {pm:Option FrameMode} {ro:Option Nat} {d:Nat} {g:Option (Tmp×Bool)}
theorem Pq{x i:Operand}{v:Value}{xs:List Int}{k:Nat}{kk:IntKind}(hn:Nat.blt d n=true)(hg:bE l g=true)(hx:ev l x=v)(hi:ev l i=.int kk (k:Int))(hf:ai ae v xs∈F)(h1:k<xs.length):
 bN (R (λh=>aD P ds (⟨⟨some d,g,.mh 1 x i⟩,[]⟩::rest) (act n l D pm ro) h K) B w0 kl F)
  (∀b o z,xs[k]? =some z->R (λh=>aD P ds rest (act n ((d,.pointer (some ⟨b,o,none⟩))::l) D pm ro) h K) B w0 kl (dF b o [.int .i64 z]::F)):=
 ⟨λr=>(Jg hn hg hx hi hf (by omega) (by omega)).h λb o z hz=>r b o z (by simpa using hz)⟩
theorem Ps{x i:Operand}{v:Value}{xs:List Bool}{k:Nat}{kk:IntKind}(hn:Nat.blt d n=true)(hg:bE l g=true)(hx:ev l x=v)(hi:ev l i=.int kk (k:Int))(hf:ai OD v xs∈F)(h1:k<xs.length):
 bN (R (λh=>aD P ds (⟨⟨some d,g,.mh 1 x i⟩,[]⟩::rest) (act n l D pm ro) h K) B w0 kl F)
  (∀b o z,xs[k]? =some z->R (λh=>aD P ds rest (act n ((d,.pointer (some ⟨b,o,none⟩))::l) D pm ro) h K) B w0 kl (dF b o [.bool z]::F)):=
 ⟨λr=>(Jh hn hg hx hi hf (by omega) (by omega)).h λb o z hz=>r b o z (by simpa using hz)⟩
end
inductive Fill(ρ:Operand->Value):List Value->List (Nat×Nat×Operand)->List Value->Prop
 |nil {cs:List Value}:Fill ρ cs [] cs
 |cons {cs vs cs' r:List Value} {off size:Nat} {x:Operand} {parts:List (Nat×Nat×Operand)} {v:Value} (h0:ρ x=v) (h1:cellsOf v=some vs) (h2:Nat.beq (gq vs) size=true) (h3:iQ cs off vs=some cs') (t:Fill ρ cs' parts r):Fill ρ cs ((off,size,x)::parts) r
theorem Fill.eq{ρ:Operand->Value}:∀{zero:List Value} {parts:List (Nat×Nat×Operand)} {cs:List Value},Fill ρ zero parts cs->oz ρ zero parts=some cs
 |_,_,_,.nil=>rfl
 |cs0,_,_,.cons (off:=off) (size:=size) (x:=x) (parts:=parts) h0 h1 h2 h3 t=>by
  have ih:=t.eq;show(match cellsOf (ρ x)with
   |none=>none
   |some vs=>cond (Nat.beq (gq vs) size) (match iQ cs0 off vs with
    |some cs=>oz ρ cs parts
    |none=>none) none)=_
  simp only[h0,h1,h2,h3,cond,ih]
theorem Pt{B:List Nat}{w0:Wd}{kl:List OA}{F:List aB}{K:KO}{ds:List Tmp}{rest:List bz}{n:Nat}{l:List (Nat×Value)}{D:List Deferred}{pm:Option FrameMode}{ro:Option Nat}{d:Nat}{g:Option (Tmp×Bool)}
 {t:TypeId} {len:Nat} {zero cs:List Value} {parts:List (Nat×Nat×Operand)} (hn:Nat.blt d n=true) (hg:bE l g=true) (hx:Fill (ev l) zero parts cs):
 bN (R (λh=>aD P ds (⟨⟨some d,g,.uT t len zero parts⟩,[]⟩::rest) (act n l D pm ro) h K) B w0 kl F)
 (∀b,R (λh=>aD P ds rest (act n ((d,.slice (some ⟨b,0,some 0⟩) len len)::l) D pm ro) h K) B w0 (pt b (.cells cs)::kl) F):=Yj hn hg hx.eq
theorem Pv{B:List Nat}{w0:Wd}{kl:List OA}{F:List aB}{K:KO}{ds:List Tmp}{rest:List bz}{n:Nat}{l:List (Nat×Value)}{D:List Deferred}{pm:Option FrameMode}{ro:Option Nat}{d:Nat}{g:Option (Tmp×Bool)}
 {zero cs:List Value} {parts:List (Nat×Nat×Operand)} (hn:Nat.blt d n=true) (hg:bE l g=true) (hx:Fill (ev l) zero parts cs):
 bN (R (λh=>aD P ds (⟨⟨some d,g,.build zero parts⟩,[]⟩::rest) (act n l D pm ro) h K) B w0 kl F) (R (λh=>aD P ds rest (act n ((d,.agg ⟨cs⟩)::l) D pm ro) h K) B w0 kl F):=fP hn hg (Yf hx.eq)
theorem fq{B:List Nat}{w0:Wd}{kl:List OA}{F:List aB}{α:Type}{E:Enc α}{v:Value}{xs:List α}{Q:IH->Prop}(hf:ai E v xs∈F)(h:∀a c,v=.slice a xs.length c->R Q B w0 kl F):R Q B w0 kl F:=λw s=>by
 obtain⟨a,c,e⟩:=Pd (s.facts _ hf);exact h a c e w s
section
variable {B:List Nat} {w0:Wd} {kl:List OA} {F:List aB} {K:KO} {ds:List Tmp} {rest:List bz} {n:Nat} {l:List (Nat×Value)} {D:List Deferred} {pm:Option FrameMode} {ro:Option Nat} {t1 t2:Nat}
theorem aL{e:Bool}(h1:e=false->R (λh=>aD P ds rest (act n ((t1,.bool false)::(t2,.bool false)::l) D pm ro) h K) B w0 kl F)(h2:e=true->R (λh=>aD P ds rest (act n ((t1,.bool true)::(t2,.bool true)::l) D pm ro) h K) B w0 kl F):
 R (λh=>aD P ds rest (act n ((t1,.bool e)::(t2,.bool e)::l) D pm ro) h K) B w0 kl F:=by
 cases e
 ·exact h1 rfl
 ·exact h2 rfl
theorem aN{p:Prop}{_:Decidable p}(h1:¬p->R (λh=>aD P ds rest (act n ((t1,.bool false)::(t2,.bool false)::l) D pm ro) h K) B w0 kl F)(h2:p->R (λh=>aD P ds rest (act n ((t1,.bool true)::(t2,.bool true)::l) D pm ro) h K) B w0 kl F):
 R (λh=>aD P ds rest (act n ((t1,.bool (decide p))::(t2,.bool (decide p))::l) D pm ro) h K) B w0 kl F:=
 aL (λe=>h1 (uP e)) (λe=>h2 (iJ e))
theorem aO{p:Prop}{_:Decidable p}(h1:p->R (λh=>aD P ds rest (act n ((t1,.bool false)::(t2,.bool false)::l) D pm ro) h K) B w0 kl F)(h2:¬p->R (λh=>aD P ds rest (act n ((t1,.bool true)::(t2,.bool true)::l) D pm ro) h K) B w0 kl F):
 R (λh=>aD P ds rest (act n ((t1,.bool (!decide p))::(t2,.bool (!decide p))::l) D pm ro) h K) B w0 kl F:=
 aL (λe=>h1 (by simpa using e)) (λe=>h2 (by simpa using e))
end
section
variable {B:List Nat} {w0:Wd} {kl kl':List OA} {F:List aB} {K:KO} {ds:List Tmp} {rest:List bz} {n:Nat} {l:List (Nat×Value)} {D:List Deferred} {pm:Option FrameMode} {ro:Option Nat} {d:Nat} {g:Option (Tmp×Bool)}
theorem Pw{x:Operand}{t:TypeId}{v:Value}{cs:List Value}(hn:Nat.blt d n=true)(hg:bE l g=true)(hv:ev l x=v)(hx:cellsOf v=some cs):bN (R (λh=>aD P ds (⟨⟨some d,g,.box x t⟩,[]⟩::rest) (act n l D pm ro) h K) B w0 kl F)
 (∀b,R (λh=>aD P ds rest (act n ((d,.pointer (some ⟨b,0,none⟩))::l) D pm ro) h K) B w0 (pt b (.cells cs)::kl) F):=Yi hn hg (by rw[hv];exact hx)
theorem Px{x y:Operand}{b o m:Nat}{cs vs c:List Value}{v:Value}(hg:bE l g=true)(hx:ev l x=.pointer (some ⟨b,o,none⟩))(hw:ev l y=v)(hy:cellsOf v=some vs)(hm:Nat.beq (gq vs) m=true)
 (hk:aj (pt b (.cells cs)) kl kl') (hv:iQ cs o vs=some c):
 bN (R (λh=>aD P ds (⟨⟨none,g,.store m x y⟩,[]⟩::rest) (act n l D pm ro) h K) B w0 kl F) (R (λh=>aD P ds rest (act n l D pm ro) h K) B w0 (pt b (.cells c)::kl') F):=Yl hg hx (by rw[hw];exact hy) hm hk hv
end
theorem Py{B:List Nat}{w0:Wd}{kl:List OA}{F:List aB}{K:KO}{ds:List Tmp}{rest:List bz}{n:Nat}{l:List (Nat×Value)}{D:List Deferred}{pm:Option FrameMode}{ro:Option Nat}{d:Nat}{g:Option (Tmp×Bool)}
 {fn:Fn} {first captured:List Operand} {a b:List Value} (hn:Nat.blt d n=true) (hg:bE l g=true) (h1:EvL (ev l) first a) (h2:EvL (ev l) captured b):
 bN (R (λh=>aD P ds (⟨⟨some d,g,.yX fn first captured⟩,[]⟩::rest) (act n l D pm ro) h K) B w0 kl F) (R (λh=>aD P ds rest (act n ((d,.func fn ⟨a⟩ ⟨b⟩)::l) D pm ro) h K) B w0 kl F):=fP hn hg (Yg h1 h2)
theorem go{G G':Prop}(x:G')(r:bN G G':=by
 repeat (first
  |((with_reducible apply bN.trans);first
   |with_reducible exact OE
   |with_reducible exact Yh
   |with_reducible exact OG
   |with_reducible exact OH
   |with_reducible exact OI
   |with_reducible exact OJ
   |with_reducible exact OL
   |with_reducible exact OM
   |with_reducible exact OO
   |with_reducible exact OP
   |with_reducible exact OQ
   |with_reducible exact OT
   |with_reducible exact OU
   |with_reducible exact OV
   |with_reducible exact OW
   |with_reducible exact OZ
   |with_reducible exact O0
   |with_reducible exact O1
   |((with_reducible apply OX);exact rfl)
   |((with_reducible apply OY);exact rfl)
   |((with_reducible apply O3);(focus exact rfl))
   |((with_reducible apply O4);(focus exact rfl))
   |((with_reducible apply O5);(focus exact rfl);(focus exact rfl))
   |((with_reducible apply Pq);(focus exact rfl);(focus exact rfl);(focus ((conv=>lhs;whnf);(first|done|fail)));(focus exact rfl);(focus (((repeat (first|with_reducible exact bF .. |with_reducible apply bB));first|done|fail);(first|done|fail)));(focus ((omega);(first|done|fail))))
   |((with_reducible apply Ps);(focus exact rfl);(focus exact rfl);(focus ((conv=>lhs;whnf);(first|done|fail)));(focus exact rfl);(focus (((repeat (first|with_reducible exact bF .. |with_reducible apply bB));first|done|fail);(first|done|fail)));(focus ((omega);(first|done|fail))))
   |((with_reducible apply Jg);(focus exact rfl);(focus exact rfl);(focus ((conv=>lhs;whnf);(first|done|fail)));(focus exact rfl);(focus (((repeat (first|with_reducible exact bF .. |with_reducible apply bB));first|done|fail);(first|done|fail)));(focus ((omega);(first|done|fail)));(focus ((omega);(first|done|fail))))
   |((with_reducible apply Jh);(focus exact rfl);(focus exact rfl);(focus ((conv=>lhs;whnf);(first|done|fail)));(focus exact rfl);(focus (((repeat (first|with_reducible exact bF .. |with_reducible apply bB));first|done|fail);(first|done|fail)));(focus ((omega);(first|done|fail)));(focus ((omega);(first|done|fail))))
   |((with_reducible apply fP);(focus exact rfl);(focus exact rfl);(focus ((first|((with_reducible apply zB);(focus ((conv=>lhs;whnf);(first|done|fail))))|((with_reducible apply zC);(focus ((conv=>lhs;whnf);(first|done|fail))))|((with_reducible apply zH);(focus exact rfl))|((with_reducible apply zJ);(focus exact rfl);(focus exact rfl))|((with_reducible apply zK);(focus exact rfl);(focus exact rfl))|((with_reducible apply zM);(focus exact rfl);(focus exact rfl))|((with_reducible apply zN);(focus exact rfl);(focus exact rfl))|((with_reducible apply zO);(focus exact rfl);(focus exact rfl))|((with_reducible apply zP);(focus exact rfl);(focus exact rfl))|((with_reducible apply zG);(focus exact rfl))|((with_reducible apply zD);(focus exact rfl);(focus ((conv=>lhs;whnf);(first|done|fail))))|((with_reducible apply zF);(focus exact rfl);(focus ((conv=>lhs;whnf);(first|done|fail))))|((with_reducible apply zR);(focus exact rfl);(focus ((conv=>lhs;whnf);(first|done|fail))))|((with_reducible apply zS);(focus exact rfl))|((with_reducible apply zT);(focus exact rfl);(focus ((conv=>lhs;whnf);(first|done|fail))))|((with_reducible apply zU);(focus exact rfl);(focus ((conv=>lhs;whnf);(first|done|fail))))|((with_reducible apply zV);(focus ((conv=>lhs;whnf);(first|done|fail))))|((with_reducible apply zW);(focus exact rfl))|((with_reducible apply zX);(focus exact rfl))|((with_reducible apply zY);(focus exact rfl))|with_reducible exact zI|((with_reducible apply zZ);(focus exact rfl);(focus exact rfl);(focus exact rfl))|((with_reducible apply Ah);(focus exact rfl);(focus exact rfl);(focus ((omega);(first|done|fail))))|((with_reducible apply xM);(focus exact rfl);(focus exact rfl);(focus ((omega);(first|done|fail)));(focus ((omega);(first|done|fail))))|((with_reducible apply z8);(focus exact rfl);(focus exact rfl);(focus ((omega);(first|done|fail)));(focus ((omega);(first|done|fail))))|((with_reducible apply vM);(focus exact rfl);(focus exact rfl);(focus ((omega);(first|done|fail)));(focus ((omega);(first|done|fail))))|((with_reducible apply zQ);(focus exact rfl);(focus exact rfl);(focus ((omega);(first|done|fail)));(focus ((omega);(first|done|fail))))|((with_reducible apply Ac);(focus exact rfl);(focus exact rfl);(focus ((first|assumption|kernel_rfl);(first|done|fail))))|((with_reducible apply Ad);(focus exact rfl);(focus exact rfl);(focus ((first|assumption|kernel_rfl);(first|done|fail))))|((with_reducible apply Ae);(focus exact rfl);(focus exact rfl))|((with_reducible apply Af);(focus exact rfl);(focus exact rfl))|((with_reducible apply Ag);(focus exact rfl);(focus exact rfl);(focus ((omega);(first|done|fail)));(focus ((omega);(first|done|fail)))));(first|done|fail))))
   |((with_reducible apply Py);(focus exact rfl);(focus exact rfl);(focus (repeat (first|with_reducible exact EvL.nil|((with_reducible apply EvL.cons);(conv=>lhs;whnf)))));(focus (repeat (first|with_reducible exact EvL.nil|((with_reducible apply EvL.cons);(conv=>lhs;whnf))))))
   |((with_reducible apply Pt);(focus exact rfl);(focus exact rfl);(focus (repeat (first|with_reducible exact Fill.nil|((with_reducible apply Fill.cons);(conv=>lhs;whnf);(conv=>lhs;whnf);(focus exact rfl);(conv=>lhs;whnf))))))
   |((with_reducible apply Pv);(focus exact rfl);(focus exact rfl);(focus (repeat (first|with_reducible exact Fill.nil|((with_reducible apply Fill.cons);(conv=>lhs;whnf);(conv=>lhs;whnf);(focus exact rfl);(conv=>lhs;whnf))))))
   |((with_reducible apply Pw);(focus exact rfl);(focus exact rfl);(focus ((conv=>lhs;whnf);(first|done|fail)));(focus ((conv=>lhs;whnf);(first|done|fail))))
   |((with_reducible apply O6);(focus exact rfl);(focus exact rfl))
   |((with_reducible apply O7);(focus exact rfl);(focus exact rfl);(focus exact rfl);(focus ((repeat (first|with_reducible exact aj.here|with_reducible apply aj.there|with_reducible apply aj.app));(first|done|fail)));(focus ((conv=>lhs;whnf);(first|done|fail))))
   |((with_reducible apply O8);(focus exact rfl);(focus exact rfl);(focus exact rfl);(focus ((repeat (first|with_reducible exact aj.here|with_reducible apply aj.there|with_reducible apply aj.app));(first|done|fail)));(focus ((conv=>lhs;whnf);(first|done|fail))))
   |((with_reducible apply O9);(focus exact rfl);(focus exact rfl);(focus exact rfl);(focus (((repeat (first|with_reducible exact bF .. |with_reducible apply bB));first|done|fail);(first|done|fail)));(focus ((conv=>lhs;whnf);(first|done|fail))))
   |((with_reducible apply Jd);(focus exact rfl);(focus exact rfl);(focus exact rfl);(focus (((repeat (first|with_reducible exact bF .. |with_reducible apply bB));first|done|fail);(first|done|fail)));(focus ((conv=>lhs;whnf);(first|done|fail))))
   |((with_reducible apply Pb);(focus exact rfl);(focus exact rfl);(focus exact rfl);(focus (((repeat (first|with_reducible exact bF .. |with_reducible apply bB));first|done|fail);(first|done|fail)));(focus ((conv=>lhs;whnf);(first|done|fail))))
   |((with_reducible apply EO);(focus exact rfl);(focus exact rfl);(focus exact rfl);(focus (((repeat (first|with_reducible exact bF .. |with_reducible apply bB));first|done|fail);(first|done|fail)));(focus ((conv=>lhs;whnf);(first|done|fail))))
   |((with_reducible apply Px);(focus exact rfl);(focus exact rfl);(focus ((conv=>lhs;whnf);(first|done|fail)));(focus ((conv=>lhs;whnf);(first|done|fail)));(focus exact rfl);(focus ((repeat (first|with_reducible exact aj.here|with_reducible apply aj.there|with_reducible apply aj.app));(first|done|fail)));(focus ((conv=>lhs;whnf);(first|done|fail))))
   |((with_reducible apply Pe);(focus exact rfl);(focus exact rfl);(focus ((conv=>lhs;whnf);(first|done|fail)));(focus (((repeat (first|with_reducible exact bF .. |with_reducible apply bB));first|done|fail);(first|done|fail))))
   |((with_reducible apply Pf);(focus exact rfl);(focus exact rfl);(focus ((conv=>lhs;whnf);(first|done|fail)));(focus ((repeat (first|with_reducible exact aj.here|with_reducible apply aj.there|with_reducible apply aj.app));(first|done|fail))))
   |((with_reducible apply Po (re:=_::_));(focus exact rfl);(focus exact rfl);(focus ((first|((with_reducible apply zB);(focus ((conv=>lhs;whnf);(first|done|fail))))|((with_reducible apply zC);(focus ((conv=>lhs;whnf);(first|done|fail))))|((with_reducible apply zH);(focus exact rfl))|((with_reducible apply zJ);(focus exact rfl);(focus exact rfl))|((with_reducible apply zK);(focus exact rfl);(focus exact rfl))|((with_reducible apply zM);(focus exact rfl);(focus exact rfl))|((with_reducible apply zN);(focus exact rfl);(focus exact rfl))|((with_reducible apply zO);(focus exact rfl);(focus exact rfl))|((with_reducible apply zP);(focus exact rfl);(focus exact rfl))|((with_reducible apply zG);(focus exact rfl))|((with_reducible apply zD);(focus exact rfl);(focus ((conv=>lhs;whnf);(first|done|fail))))|((with_reducible apply zF);(focus exact rfl);(focus ((conv=>lhs;whnf);(first|done|fail))))|((with_reducible apply zR);(focus exact rfl);(focus ((conv=>lhs;whnf);(first|done|fail))))|((with_reducible apply zS);(focus exact rfl))|((with_reducible apply zT);(focus exact rfl);(focus ((conv=>lhs;whnf);(first|done|fail))))|((with_reducible apply zU);(focus exact rfl);(focus ((conv=>lhs;whnf);(first|done|fail))))|((with_reducible apply zV);(focus ((conv=>lhs;whnf);(first|done|fail))))|((with_reducible apply zW);(focus exact rfl))|((with_reducible apply zX);(focus exact rfl))|((with_reducible apply zY);(focus exact rfl))|with_reducible exact zI|((with_reducible apply zZ);(focus exact rfl);(focus exact rfl);(focus exact rfl))|((with_reducible apply Ah);(focus exact rfl);(focus exact rfl);(focus ((omega);(first|done|fail))))|((with_reducible apply xM);(focus exact rfl);(focus exact rfl);(focus ((omega);(first|done|fail)));(focus ((omega);(first|done|fail))))|((with_reducible apply z8);(focus exact rfl);(focus exact rfl);(focus ((omega);(first|done|fail)));(focus ((omega);(first|done|fail))))|((with_reducible apply vM);(focus exact rfl);(focus exact rfl);(focus ((omega);(first|done|fail)));(focus ((omega);(first|done|fail))))|((with_reducible apply zQ);(focus exact rfl);(focus exact rfl);(focus ((omega);(first|done|fail)));(focus ((omega);(first|done|fail))))|((with_reducible apply Ac);(focus exact rfl);(focus exact rfl);(focus ((first|assumption|kernel_rfl);(first|done|fail))))|((with_reducible apply Ad);(focus exact rfl);(focus exact rfl);(focus ((first|assumption|kernel_rfl);(first|done|fail))))|((with_reducible apply Ae);(focus exact rfl);(focus exact rfl))|((with_reducible apply Af);(focus exact rfl);(focus exact rfl))|((with_reducible apply Ag);(focus exact rfl);(focus exact rfl);(focus ((omega);(first|done|fail)));(focus ((omega);(first|done|fail)))));(first|done|fail)));(focus ((repeat (first|exact vO|refine vP rfl (by repeat (first|with_reducible exact aj.here|with_reducible apply aj.there|with_reducible apply aj.app)) (by first|exact rfl|(conv=>lhs;whnf)) rfl ?_|refine xN rfl (by(repeat (first|with_reducible exact bF .. |with_reducible apply bB));first|done|fail) (by first|exact rfl|(conv=>lhs;whnf)) rfl ?_|refine xO rfl (by(repeat (first|with_reducible exact bF .. |with_reducible apply bB));first|done|fail) (by first|exact rfl|(conv=>lhs;whnf)) rfl ?_|refine xP rfl (by repeat (first|with_reducible exact aj.here|with_reducible apply aj.there|with_reducible apply aj.app)) (by first|exact rfl|(conv=>lhs;whnf)) rfl ?_|refine xQ rfl (by(repeat (first|with_reducible exact bF .. |with_reducible apply bB));first|done|fail) (by first|exact rfl|(conv=>lhs;whnf)) rfl ?_|refine xR rfl (by(repeat (first|with_reducible exact bF .. |with_reducible apply bB));first|done|fail) (by first|exact rfl|(conv=>lhs;whnf)) rfl ?_));(first|done|fail))))
   |((with_reducible apply Pn (re:=_::_));(focus exact rfl);(focus exact rfl);(focus ((conv=>lhs;whnf);(first|done|fail)));(focus ((conv=>lhs;whnf);(first|done|fail)));(focus exact rfl);(focus ((repeat (first|with_reducible exact aj.here|with_reducible apply aj.there|with_reducible apply aj.app));(first|done|fail)));(focus ((conv=>lhs;whnf);(first|done|fail)));(focus ((repeat (first|exact vO|refine vP rfl (by repeat (first|with_reducible exact aj.here|with_reducible apply aj.there|with_reducible apply aj.app)) (by first|exact rfl|(conv=>lhs;whnf)) rfl ?_|refine xN rfl (by(repeat (first|with_reducible exact bF .. |with_reducible apply bB));first|done|fail) (by first|exact rfl|(conv=>lhs;whnf)) rfl ?_|refine xO rfl (by(repeat (first|with_reducible exact bF .. |with_reducible apply bB));first|done|fail) (by first|exact rfl|(conv=>lhs;whnf)) rfl ?_|refine xP rfl (by repeat (first|with_reducible exact aj.here|with_reducible apply aj.there|with_reducible apply aj.app)) (by first|exact rfl|(conv=>lhs;whnf)) rfl ?_|refine xQ rfl (by(repeat (first|with_reducible exact bF .. |with_reducible apply bB));first|done|fail) (by first|exact rfl|(conv=>lhs;whnf)) rfl ?_|refine xR rfl (by(repeat (first|with_reducible exact bF .. |with_reducible apply bB));first|done|fail) (by first|exact rfl|(conv=>lhs;whnf)) rfl ?_));(first|done|fail))))
   |fail)
  |((with_reducible apply bN.all);intro _)
  |with_reducible apply bN.imp)
 with_reducible exact bN.refl _):G:=r.h x
theorem ng{B:List Nat}{w0:Wd}{kl:List OA}{F:List aB}{K:KO}{c:bK}{a:aI}(r:R (λh=>EV P c a h (vH P (.loop c) K)) B w0 kl F):R (λh=>EV P (.loop c) a h K) B w0 kl F:=λw s=>
 .loop _ (r w s) (λ_ _ hm=>hm) (λo a' h' hm hn=>by
  cases o with
  |normal=>exact absurd rfl hn
  |_=>exact hm)
theorem ja.sub{α:Type}{F0:List α}:∀{F:List α},ja F0 F->Sub F0 F:=λ{F} h=>by
 have:∀k:List α,(∀x∈k,x∈F)->Sub k F:=by
  intro k;induction k with
  |nil=>intro _;exact .nil
  |cons a k ih=>intro hk;exact .cons (hk a (bF ..)) (ih λx hx=>hk x (bB _ hx))
 exact this F0 h.mem
inductive aT{α:Type}:List α->List α->List α->Prop
 |nil {l:List α}:aT [] l l
 |cons {a:α} {k l m:List α} (h:aT k l m):aT (a::k) l (a::m)
 |self {k:List α}:aT k [] k
 |app {k l:List α}:aT k l (k++l)
theorem aT.eq{α:Type}:∀{k l m:List α},aT k l m->k++l=m
 |_,_,_,.nil=>rfl
 |_,_,_,.self=>iX _
 |_,_,_,.app=>rfl
 |_,_,_,.cons h=>by rw[dn,h.eq]
section
variable {B:List Nat} {w0:Wd} {kl kl' aR:List OA} {F:List aB} {K:KO} {ds:List Tmp} {rest:List bz} {n:Nat} {l:List (Nat×Value)} {D:List Deferred} {pm:Option FrameMode} {ro:Option Nat} {d:Nat} {g:Option (Tmp×Bool)}
theorem ax{Y:Type}{f:Operand}{xs:List Operand}{re:List fT}{fn:Fn}{first captured vs as:List Value}{k1:List OA}{F1:List aB}{val:Y->Value}{k1':Y->List OA}{fs:Y->List aB}{pr:Y->Prop}{bX:Y->List OA}{F2:Y->List aB}
 (hc:aV P fn as captured k1 F1 val k1' fs pr) (hn:Nat.blt d n=true:=by rfl) (hg:bE l g=true:=by rfl) (hf:ev l f=.func fn ⟨first⟩ ⟨captured⟩:=by rfl) (hx:EvL (ev l) xs vs:=by repeat (first|with_reducible exact EvL.nil|((with_reducible apply EvL.cons);(conv=>lhs;whnf)))) (ha:first++vs=as:=by rfl)
 (hk:aM k1 kl aR:=by exact kG) (hF:Sub F1 F:=by exact jV)
 (hak:∀y,aT (k1' y) aR (bX y):=by intro y;repeat (first|exact aT.nil|apply aT.cons|exact aT.self|exact aT.app)) (vQ:∀y,aT (fs y) F (F2 y):=by intro y;repeat (first|exact aT.nil|apply aT.cons|exact aT.self|exact aT.app))
 (hs:∀y,pr y->Same P re (ev ((d,val y)::l)) ((d,val y)::l) B w0 (bX y) (F2 y):=by intro _ _;repeat (first|exact vO|refine vP rfl (by repeat (first|with_reducible exact aj.here|with_reducible apply aj.there|with_reducible apply aj.app)) (by first|exact rfl|(conv=>lhs;whnf)) rfl ?_|refine xN rfl (by(repeat (first|with_reducible exact bF .. |with_reducible apply bB));first|done|fail) (by first|exact rfl|(conv=>lhs;whnf)) rfl ?_|refine xO rfl (by(repeat (first|with_reducible exact bF .. |with_reducible apply bB));first|done|fail) (by first|exact rfl|(conv=>lhs;whnf)) rfl ?_|refine xP rfl (by repeat (first|with_reducible exact aj.here|with_reducible apply aj.there|with_reducible apply aj.app)) (by first|exact rfl|(conv=>lhs;whnf)) rfl ?_|refine xQ rfl (by(repeat (first|with_reducible exact bF .. |with_reducible apply bB));first|done|fail) (by first|exact rfl|(conv=>lhs;whnf)) rfl ?_|refine xR rfl (by(repeat (first|with_reducible exact bF .. |with_reducible apply bB));first|done|fail) (by first|exact rfl|(conv=>lhs;whnf)) rfl ?_|refine Pm (by first|((with_reducible apply zB);(focus ((conv=>lhs;whnf);(first|done|fail))))|((with_reducible apply zC);(focus ((conv=>lhs;whnf);(first|done|fail))))|((with_reducible apply zH);(focus exact rfl))|((with_reducible apply zJ);(focus exact rfl);(focus exact rfl))|((with_reducible apply zK);(focus exact rfl);(focus exact rfl))|((with_reducible apply zM);(focus exact rfl);(focus exact rfl))|((with_reducible apply zN);(focus exact rfl);(focus exact rfl))|((with_reducible apply zO);(focus exact rfl);(focus exact rfl))|((with_reducible apply zP);(focus exact rfl);(focus exact rfl))|((with_reducible apply zG);(focus exact rfl))|((with_reducible apply zD);(focus exact rfl);(focus ((conv=>lhs;whnf);(first|done|fail))))|((with_reducible apply zF);(focus exact rfl);(focus ((conv=>lhs;whnf);(first|done|fail))))|((with_reducible apply zR);(focus exact rfl);(focus ((conv=>lhs;whnf);(first|done|fail))))|((with_reducible apply zS);(focus exact rfl))|((with_reducible apply zT);(focus exact rfl);(focus ((conv=>lhs;whnf);(first|done|fail))))|((with_reducible apply zU);(focus exact rfl);(focus ((conv=>lhs;whnf);(first|done|fail))))|((with_reducible apply zV);(focus ((conv=>lhs;whnf);(first|done|fail))))|((with_reducible apply zW);(focus exact rfl))|((with_reducible apply zX);(focus exact rfl))|((with_reducible apply zY);(focus exact rfl))|with_reducible exact zI|((with_reducible apply zZ);(focus exact rfl);(focus exact rfl);(focus exact rfl))|((with_reducible apply Ah);(focus exact rfl);(focus exact rfl);(focus ((omega);(first|done|fail))))|((with_reducible apply xM);(focus exact rfl);(focus exact rfl);(focus ((omega);(first|done|fail)));(focus ((omega);(first|done|fail))))|((with_reducible apply z8);(focus exact rfl);(focus exact rfl);(focus ((omega);(first|done|fail)));(focus ((omega);(first|done|fail))))|((with_reducible apply vM);(focus exact rfl);(focus exact rfl);(focus ((omega);(first|done|fail)));(focus ((omega);(first|done|fail))))|((with_reducible apply zQ);(focus exact rfl);(focus exact rfl);(focus ((omega);(first|done|fail)));(focus ((omega);(first|done|fail))))|((with_reducible apply Ac);(focus exact rfl);(focus exact rfl);(focus ((first|assumption|kernel_rfl);(first|done|fail))))|((with_reducible apply Ad);(focus exact rfl);(focus exact rfl);(focus ((first|assumption|kernel_rfl);(first|done|fail))))|((with_reducible apply Ae);(focus exact rfl);(focus exact rfl))|((with_reducible apply Af);(focus exact rfl);(focus exact rfl))|((with_reducible apply Ag);(focus exact rfl);(focus exact rfl);(focus ((omega);(first|done|fail)));(focus ((omega);(first|done|fail))))) rfl ?_))
 (next:∀y,pr y->R (λh=>aD P ds rest (act n ((d,val y)::l) D pm ro) h K) B w0 (bX y) (F2 y)):
 R (λh=>aD P ds (⟨⟨some d,g,.call f xs⟩,re⟩::rest) (act n l D pm ro) h K) B w0 kl F:=
 Yv hc hn hg hf hx ha hk hF (λy hy=>by rw[(hak y).eq,(vQ y).eq];exact hs y hy) (λy hy=>by rw[(hak y).eq,(vQ y).eq];exact next y hy)
abbrev dS(P:Program)(f:FuncId)(args:List Value)(F:List aB)(v:Value):Prop:=aV P (.func f) args [] [] F (λ_:Unit=>v) (λ_=>[]) (λ_=>[]) (λ_=>True)
theorem aS{Y:Type}{f:FuncId}{args cap:List Value}{kl:List OA}{F:List aB}{val:Y->Value}{kl':Y->List OA}{fs:Y->List aB}{pr:Y->Prop}{c:bK}{m:Nat}{l0:List (Nat×Value)}(cf:fI)(hF:(lK P nM nN).F f=some cf)
 (hb:∀B w0,R (λh=>EV P c (act m l0 [] none none) h (zx cf (Left B w0 val kl' fs pr))) B w0 kl F)
 (h1:cf.body=c:=by conv=>lhs;(reduce;(try simp only[Int.reduceOfNat,Int.reduceNegSucc]))) (h2:oD cf.ntmps (gq (args++cap))=m:=by conv=>lhs;whnf) (h3:mZ 0 (args++cap) []=l0:=by dsimp only[mZ,Nat.reduceAdd,List.append_nil,List.cons_append,List.nil_append]):aV P (.func f) args cap kl F val kl' fs pr:=
 Yt cf hF (by rw[h1,h2,h3];exact hb)
theorem dm{α:Type}(E:Enc α){x i:Operand}{v:Value}{xs:List α}{size:Nat}{k:Nat}{kk:IntKind}{F2:α->E.Y->List aB}(hn:Nat.blt d n=true:=by rfl)(hg:bE l g=true:=by rfl)(hx:ev l x=v:=by conv=>lhs;whnf)(hi:ev l i=.int kk (k:Int):=by rfl)
 (hf:ai E v xs∈F:=by exact um) (hs:E.n=size:=by rfl) (h1:k<xs.length:=by omega)
 (ha:∀z y,aT (E.fs z y) F (F2 z y):=by intro z y;repeat (first|exact aT.nil|apply aT.cons|exact aT.self|exact aT.app))
 (next:∀b o z y,xs[k]? =some z->R (λh=>aD P ds rest (act n ((d,.pointer (some ⟨b,o,none⟩))::l) D pm ro) h K) B w0 kl (dF b o (E.pat z y)::F2 z y)):
 R (λh=>aD P ds (⟨⟨some d,g,.mh size x i⟩,[]⟩::rest) (act n l D pm ro) h K) B w0 kl F:=
 (Jf hn hg hx hi hf hs (by omega) (by omega)).h λb o z y hz=>by rw[(ha z y).eq];exact next b o z y (by simpa using hz)
theorem aa{Y:Type}{o:Out}{cf:fI}{vs:List Value}{val:Y->Value}{k1:Y->List OA}{fs:Y->List aB}{pr:Y->Prop}(y:Y)
 (hr:RS l kl cf.results vs:=by exact xS) (hv:oM vs=val y:=by rfl) (hp:pr y)
 (hk:aM (k1 y) kl aR:=by exact kG) (hF:Sub (fs y) F:=by exact jV)
 (ho:o=.normal\/o=.ret:=by first|exact .inl rfl|exact .inr rfl):R (λh=>zx cf (Left B w0 val k1 fs pr) o (act n l [] none ro) h) B w0 kl F:=
 Pp y hr hv hp hk hF ho
theorem aZ{A:OA}{fs F2:List aB}{Q:IH->Prop}(hA:p9 A fs)(hk:aj A kl kl':=by exact fE)(ha:aT fs F F2:=by repeat (first|exact aT.nil|apply aT.cons|exact aT.self|exact aT.app))(h:R Q B w0 kl' F2):R Q B w0 kl F:=
 Yp hA hk (by rw[ha.eq];exact h)
theorem bJ{X:Type}{c:bK}{l0:List (Nat×Value)}{L2:X->List (Nat×Value)}{vR:X->List OA}{vS:X->List aB}(m:X->Nat)(L:X->List (Nat×Value))(KL:X->List OA)(FF:X->List aB)(inv:X->Prop)(x0:X)(hi:inv x0)
 (h0:lU l (L x0) l0:=by repeat (first|exact lU.nil|(apply lU.drop;(focus exact rfl))|(apply lU.keep;(focus exact rfl)))) (hl:sub (L x0++l0) l:=by repeat (first|exact trivial|refine⟨rfl,?_⟩))
 (hk:aM (KL x0) kl aR:=by exact kG) (hF:Sub (FF x0) F:=by exact jV)
 (hak:∀x,aT (KL x) aR (vR x):=by intro y;repeat (first|exact aT.nil|apply aT.cons|exact aT.self|exact aT.app)) (vQ:∀x,aT (FF x) F (vS x):=by intro y;repeat (first|exact aT.nil|apply aT.cons|exact aT.self|exact aT.app))
 (hal:∀x,aT (L x) l0 (L2 x):=by intro y;repeat (first|exact aT.nil|apply aT.cons|exact aT.self|exact aT.app))
 (body:∀x,inv x->R (λh=>EV P c (act n (L2 x) D pm ro) h (qR (LI n D pm ro B w0 m L KL FF inv l0 aR F) (m x) K)) B w0 (vR x) (vS x)):
 R (λh=>EV P (.loop c) (act n l D pm ro) h K) B w0 kl F:=
 Yw m L KL FF inv x0 hi l0 hl hk hF λx hx=>by rw[(hak x).eq,(vQ x).eq,(hal x).eq];exact body x hx
theorem bi{X:Type}{m:X->Nat}{L:X->List (Nat×Value)}{KL:X->List OA}{FF:X->List aB}{inv:X->Prop}{l0:List (Nat×Value)}{vT bX:List OA}{F0:List aB}{m0:Nat}(x:X)(hm:m x<m0)(hi:inv x)
 (hl:sub (L x++l0) l:=by repeat (first|exact trivial|refine⟨rfl,?_⟩)) (ha:aT (KL x) aR vT:=by repeat (first|exact aT.nil|apply aT.cons|exact aT.self|exact aT.app))
 (hk:aM vT kl bX:=by exact kG) (hF:Sub (FF x) F:=by exact jV)
 (ul:ja F0 F:=by repeat (first|exact ja.here|apply ja.cons|apply ja.app)):
 R (λh=>qR (LI n D pm ro B w0 m L KL FF inv l0 aR F0) m0 K .normal (act n l D pm ro) h) B w0 kl F:=
 Yx x hm hi hl (by rw[ha.eq];exact hk) hF ul
end
end Go.Ideal
namespace Go.Ideal
noncomputable def EP(L:Lay):Wd:=⟨jg L,λi=>i<(jg L).next,λ_ h=>h⟩
end Go.Ideal
namespace Go.Ideal
open Go.ChangeShapes Go.WideShapes Go.ChangeAt Go.RowKit
variable {P:Program}
def Ai{α:Type}(P:Program)(t:TypeId)(E:Enc α):Prop:=∀(w:Wd) (H:Type) (d:DataW H) (cs:List Value),(∀i,i<w.h.next->w.z i)->fV P w.h t cs d->∃a y,cs=E.pat a y/\∀f∈E.fs a y,f.p w
theorem Jj{α:Type}{p:Nat->α->Prop}:∀n,(∀k,k<n->∃a,p k a)->∃l:List α,l.length=n/\∀(k:Nat) a,l[k]? =some a->p k a
 |0,_=>⟨[],rfl,λk a h=>by cases h⟩
 |n+1,h=>by
  obtain⟨l,h1,h2⟩:=Jj n (λk hk=>h k (by omega));obtain⟨a,ha⟩:=h n (by omega);refine⟨l++[a],by simp[h1],λk b hb=>?_⟩;by_cases hk:k<l.length
  ·rw[l9 hk]at hb;exact h2 k b hb
  ·rw[pq (by omega)]at hb;have hk0:k=n:=by have:=(bA.1 hb).1;simp at this;omega
   subst hk0;rw[h1]at hb;simp at hb;subst hb;exact ha
def Pz{α β:Type}(E1:Enc α)(E2:Enc β):Enc (α×β):=⟨E1.n+E2.n,E1.Y×E2.Y,λa y=>E1.pat a.1 y.1++E2.pat a.2 y.2,λa y=>E1.fs a.1 y.1++E2.fs a.2 y.2,λa y=>by rw[fK,E1.len,E2.len]⟩
def PD:Enc Unit:=⟨0,Unit,λ_ _=>[],λ_ _=>[],λ_ _=>rfl⟩
inductive Aj(P:Program):{α:Type}->List Field->Enc α->Prop
 |nil:Aj P [] PD
 |cons {α β:Type} {f:Field} {fs:List Field} {E1:Enc α} {E2:Enc β} (h:Ai P f.type E1) (hn:P.cellsOf f.type=E1.n) (t:Aj P fs E2):Aj P (f::fs) (Pz E1 E2)
theorem Aj.EQ{w:Wd}{H:Type}(hz:∀i,i<w.h.next->w.z i):∀{α:Type} {fs:List Field} {E:Enc α},Aj P fs E->∀(o0:Nat) (cs:List Value) (ds:List (DataW H)),cs.length=(fs.map λf=>P.cellsOf f.type).sum->ds.length=fs.length->
 fs.map (·.offset)=sums o0 (fs.map λf=>P.cellsOf f.type)->(∀(j:Nat) f d,fs[j]? =some f->ds[j]? =some d->fV P w.h f.type ((cs.drop (f.offset - o0)).take (P.cellsOf f.type)) d)->∃a y,cs=E.pat a y/\∀f∈E.fs a y,f.p w
 |_,_,_,.nil,o0,cs,ds,h1,h2,h3,h4=>⟨(),(),kW.1 (by simpa using h1),λf hf=>by cases hf⟩
 |_,_,_,.cons (f:=f) (fs:=fs) (E1:=E1) (E2:=E2) h hn t,o0,cs,ds,h1,h2,h3,h4=>by
  match ds,h2 with
  |d::ds,h2=>
   simp only[fG,List.sum_cons,sums,yP]at h1 h3;obtain⟨ho,h3⟩:=h3;have r0:=h4 0 f d rfl rfl;rw[ho,yS,wQ]at r0;obtain⟨a,y,q1,q2⟩:=h w H d _ hz r0;obtain⟨b,z,u1,u2⟩:=Aj.EQ hz t (o0+P.cellsOf f.type) (cs.drop (P.cellsOf f.type)) ds (by rw[qC];omega) (by simpa using h2) h3 (λj g e hg he=>by
    have:=h4 (j+1) g e hg he;rw[List.drop_drop];have hle:o0+P.cellsOf f.type<=g.offset:=by
     have hj:(fs.map (·.offset))[j]? =some g.offset:=by rw[eX,hg];rfl
     rw[h3]at hj;have hs:(fs.map λf=>P.cellsOf f.type)[j]? =some (P.cellsOf g.type):=by rw[eX,hg];rfl
     exact(vJ _ ([]:List Value) (o0+P.cellsOf f.type) j _ _ hj hs).2
    rw[show P.cellsOf f.type+(g.offset - (o0+P.cellsOf f.type))=g.offset - o0 by omega];exact this)
   refine⟨(a,b),(y,z),?_,?_⟩
   ·show cs=E1.pat a y++E2.pat b z;rw[<- q1,<- u1,rH]
   ·intro g hg;rcases eZ.1 hg with hg|hg
    ·exact q2 g hg
    ·exact u2 g hg
theorem Ai.conv{α β:Type}{t:TypeId}{E:Enc α}{E':Enc β}(h:Ai P t E)(hc:∀a y,∃b z,E.pat a y=E'.pat b z/\E.fs a y=E'.fs b z):Ai P t E':=λw H d cs hz r=>by
 obtain⟨a,y,q1,q2⟩:=h w H d cs hz r;obtain⟨b,z,e1,e2⟩:=hc a y;exact⟨b,z,by rw[q1,e1],λf hf=>q2 f (by rw[e2];exact hf)⟩
section
variable {H:Type} {enc:TypeId×Value->H} {W:World} {K:TypeId->Prop}
def vU(P:Program)(w:Wd)(t:TypeId)(v:Value){H:Type}(d:DataW H):Prop:=∃cs,fV P w.h t cs d/\((iR P t=true/\v=.agg ⟨cs⟩)\/(iR P t=false/\cs=[v]))
theorem vU.agg{α:Type}{w:Wd}{t:TypeId}{v:Value}{d:DataW H}{E:Enc α}(h:vU P w t v d)(hz:∀i,i<w.h.next->w.z i)(ha:iR P t=true)(hr:Ai P t E):∃a y,v=.agg ⟨E.pat a y⟩/\∀f∈E.fs a y,f.p w:=by
 obtain⟨cs,r,⟨_,e⟩|⟨e,_⟩⟩:=h
 ·obtain⟨a,y,rfl,q⟩:=hr w H d cs hz r;exact⟨a,y,e,q⟩
 ·rw[ha]at e;cases e
theorem vU.one{α:Type}{w:Wd}{t:TypeId}{v:Value}{d:DataW H}{E:Enc α}(h:vU P w t v d)(hz:∀i,i<w.h.next->w.z i)(ha:iR P t=false)(hr:Ai P t E):∃a y,E.pat a y=[v]/\∀f∈E.fs a y,f.p w:=by
 obtain⟨cs,r,⟨e,_⟩|⟨_,e⟩⟩:=h
 ·rw[ha]at e;cases e
 ·obtain⟨a,y,q0,q⟩:=hr w H d cs hz r;exact⟨a,y,by rw[<- q0,e],q⟩
theorem Yy{L:Lay}{t:TypeId}{v v0:Value}{d:DataW H}{w:Wd}(hw:w.h=jg L)(r:vK P (jg L) t v d)(hv:VR (iN L) v v0)(hok:Value.okWide P W .any 0 t v0):vU P w t v d:=by
 obtain⟨cs,r1,h2,h3⟩:=r;refine⟨cs,by rw[hw];exact r1,?_⟩;cases ha:iR P t with
 |true=>
  left;refine⟨rfl,?_⟩;rcases h3 with e|e
  ·subst e;have hagg:∃c,v0=.agg c:=by
    unfold iR at ha;unfold Value.okWide at hok;split at ha
    ·rename_i fs hu;rw[hu]at hok;obtain⟨c,e,_⟩:=hok;exact⟨c,e⟩
    ·rename_i n e hu;rw[hu]at hok;obtain⟨c,e,_⟩:=hok;exact⟨c,e⟩
    ·cases ha
   obtain⟨c,rfl⟩:=hagg
   exfalso
   cases hv<;>simp[cellV]at h2
  ·exact e
 |false=>
  right;refine⟨rfl,?_⟩;rcases h3 with e|e
  ·exact e
  ·subst e
   exfalso
   cases hv with
   |agg hc hl=>
    cases hu:P.underlying t with
    |none=>simp[Value.okWide,Cell.okWide,Cell.ok,hu]at hok
    |some d=>cases d<;>simp[Value.okWide,Cell.okWide,Cell.ok,iR,hu]at hok ha
theorem Yz{ts:List TypeId}{vs' vs:List Value}{L:Lay}(hv:aH (iN L) vs' vs):∀(j:Nat) v',vs'[j]? =some v'->∃v,vs[j]? =some v/\VR (iN L) v' v:=by
 intro j;induction j generalizing vs' vs with
 |zero=>
  intro v' h;cases hv with
  |nil=>cases h
  |cons h1 h2=>cases h;exact⟨_,rfl,h1⟩
 |succ j ih=>
  intro v' h;cases hv with
  |nil=>cases h
  |cons h1 h2=>exact ih h2 v' h
theorem PE{a:Nat}{b:Nat->Bool}{c:Bool}:∀{ts:List TypeId} {vs:List Value} {ds:List (DataW H)} {ps:List MemPlace},DataW.TrodAll enc P W a b c ts vs ds ps->vs.length=ts.length/\ds.length=ts.length
 |[],[],[],_,_=>⟨rfl,rfl⟩
 |_::_,_::_,_::_,_,⟨_,_,_,h,_⟩=>by
  have:=PE h;simp[this.1,this.2]
theorem PG{α:Type}{l:List α}(h:l.length=3):∃a b c,l=[a,b,c]:=by
 match l,h with
 |[a,b,c],_=>exact⟨a,b,c,rfl⟩
end
