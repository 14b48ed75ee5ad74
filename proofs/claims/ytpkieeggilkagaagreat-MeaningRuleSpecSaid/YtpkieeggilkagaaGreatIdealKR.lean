/-
  Part IdealKR.
-/
import Derived.Test.YtpkieeggilkagaaGreatIdealJR
import Derived.Test.YtpkieeggilkagaaGreatIdealIR
set_option linter.all false
namespace Go.Ideal
theorem mg{p:Prop}(h:p:=by repeat (first|exact Sub.nil|(apply Sub.cons;(focus ((repeat (first|with_reducible exact dJ .. |with_reducible apply dN));first|done|fail)))|exact j6.sub (by repeat (first|with_reducible exact j6.here|with_reducible apply j6.cons|with_reducible apply j6.app)))):p:=h
theorem mh{p:Prop}(h:p:=by repeat (first|exact aJ.nil|(apply aJ.cons;(focus (repeat (first|with_reducible exact aA.here|with_reducible apply aA.there|with_reducible apply aA.app))))|with_reducible exact aJ.all _|with_reducible exact aJ.self _ _|with_reducible apply aJ.there)):p:=h
theorem gz{p:Prop}(h:p:=by repeat (first|with_reducible exact aA.here|with_reducible apply aA.there|with_reducible apply aA.app)):p:=h
theorem Ak{p:Prop}(h:p:=by repeat (first|exact RS.nil|(apply RS.tmp;(conv=>lhs;whnf))|(apply RS.cell1;(focus exact rfl);(focus (repeat (first|with_reducible exact aA.here|with_reducible apply aA.there|with_reducible apply aA.app)));(conv=>lhs;whnf))|(apply RS.qz;(focus exact rfl);(focus (repeat (first|with_reducible exact aA.here|with_reducible apply aA.there|with_reducible apply aA.app)));(conv=>lhs;whnf)))):p:=h
theorem vL{p:Prop}(h:p:=by(repeat (first|with_reducible exact dJ .. |with_reducible apply dN));first|done|fail):p:=h
variable {P:Program}
section
variable {B:List Nat} {w0:Wd} {kl:List OA} {F:List aL} {K:KO} {ds:List Tmp} {rest:List bT} {n:Nat} {l:List (Nat×Value)} {D:List Deferred} {pm:Option FrameMode} {ro:Option Nat} {d:Nat} {g:Option (Tmp×Bool)}
theorem abM{x i:Operand}{v:Value}{xs:List Int}{k:Nat}{kk:IntKind}(hn:Nat.blt d n=true)(hg:bW l g=true)(hx:ev l x=v)(hi:ev l i=.int kk (k:Int))(hf:ah aa v xs∈F)(h1:k<xs.length):
 dO (R (λh=>aK P ds (⟨⟨some d,g,.nT 1 x i⟩,[]⟩::rest) (act n l D pm ro) h K) B w0 kl F)
  (∀b o z,xs[k]? =some z->R (λh=>aK P ds rest (act n ((d,.pointer (some ⟨b,o,none⟩))::l) D pm ro) h K) B w0 kl (bZ b o [.int .i64 z]::F)):=
 ⟨λr=>(R3 hn hg hx hi hf (by omega) (by omega)).h λb o z hz=>r b o z (by simpa using hz)⟩
theorem abN{x i:Operand}{v:Value}{xs:List Bool}{k:Nat}{kk:IntKind}(hn:Nat.blt d n=true)(hg:bW l g=true)(hx:ev l x=v)(hi:ev l i=.int kk (k:Int))(hf:ah lC v xs∈F)(h1:k<xs.length):
 dO (R (λh=>aK P ds (⟨⟨some d,g,.nT 1 x i⟩,[]⟩::rest) (act n l D pm ro) h K) B w0 kl F)
  (∀b o z,xs[k]? =some z->R (λh=>aK P ds rest (act n ((d,.pointer (some ⟨b,o,none⟩))::l) D pm ro) h K) B w0 kl (bZ b o [.bool z]::F)):=
 ⟨λr=>(R4 hn hg hx hi hf (by omega) (by omega)).h λb o z hz=>r b o z (by simpa using hz)⟩
end
inductive Fill(ρ:Operand->Value):List Value->List (Nat×Nat×Operand)->List Value->Prop
 |nil {cs:List Value}:Fill ρ cs [] cs
 |cons {cs vs cs' r:List Value} {off size:Nat} {x:Operand} {parts:List (Nat×Nat×Operand)} {v:Value} (h0:ρ x=v) (h1:cellsOf v=some vs) (h2:Nat.beq (iM vs) size=true) (h3:jY cs off vs=some cs') (t:Fill ρ cs' parts r):Fill ρ cs ((off,size,x)::parts) r
theorem Fill.eq{ρ:Operand->Value}:∀{zero:List Value} {parts:List (Nat×Nat×Operand)} {cs:List Value},Fill ρ zero parts cs->ry ρ zero parts=some cs
 |_,_,_,.nil=>rfl
 |cs0,_,_,.cons (off:=off) (size:=size) (x:=x) (parts:=parts) h0 h1 h2 h3 t=>by
  have ih:=t.eq;show(match cellsOf (ρ x)with
   |none=>none
   |some vs=>cond (Nat.beq (iM vs) size) (match jY cs0 off vs with
    |some cs=>ry ρ cs parts
    |none=>none) none)=_
  simp only[h0,h1,h2,h3,cond,ih]
theorem abO{B:List Nat}{w0:Wd}{kl:List OA}{F:List aL}{K:KO}{ds:List Tmp}{rest:List bT}{n:Nat}{l:List (Nat×Value)}{D:List Deferred}{pm:Option FrameMode}{ro:Option Nat}{d:Nat}{g:Option (Tmp×Bool)}
 {t:TypeId} {len:Nat} {zero cs:List Value} {parts:List (Nat×Nat×Operand)} (hn:Nat.blt d n=true) (hg:bW l g=true) (hx:Fill (ev l) zero parts cs):
 dO (R (λh=>aK P ds (⟨⟨some d,g,.wC t len zero parts⟩,[]⟩::rest) (act n l D pm ro) h K) B w0 kl F)
 (∀b,R (λh=>aK P ds rest (act n ((d,.slice (some ⟨b,0,some 0⟩) len len)::l) D pm ro) h K) B w0 (pt b (.cells cs)::kl) F):=abn hn hg hx.eq
theorem abP{B:List Nat}{w0:Wd}{kl:List OA}{F:List aL}{K:KO}{ds:List Tmp}{rest:List bT}{n:Nat}{l:List (Nat×Value)}{D:List Deferred}{pm:Option FrameMode}{ro:Option Nat}{d:Nat}{g:Option (Tmp×Bool)}
 {zero cs:List Value} {parts:List (Nat×Nat×Operand)} (hn:Nat.blt d n=true) (hg:bW l g=true) (hx:Fill (ev l) zero parts cs):
 dO (R (λh=>aK P ds (⟨⟨some d,g,.build zero parts⟩,[]⟩::rest) (act n l D pm ro) h K) B w0 kl F) (R (λh=>aK P ds rest (act n ((d,.agg ⟨cs⟩)::l) D pm ro) h K) B w0 kl F):=gH hn hg (aaU hx.eq)
theorem aT{B:List Nat}{w0:Wd}{kl:List OA}{F:List aL}{α:Type}{E:Enc α}{v:Value}{xs:List α}{Q:IH->Prop}(hf:ah E v xs∈F)(h:∀a c,v=.slice a xs.length c->R Q B w0 kl F):R Q B w0 kl F:=λw s=>by
 obtain⟨a,c,e⟩:=RZ (s.facts _ hf);exact h a c e w s
section
variable {B:List Nat} {w0:Wd} {kl:List OA} {F:List aL} {K:KO} {ds:List Tmp} {rest:List bT} {n:Nat} {l:List (Nat×Value)} {D:List Deferred} {pm:Option FrameMode} {ro:Option Nat} {t1 t2:Nat}
theorem lD{e:Bool}(h1:e=false->R (λh=>aK P ds rest (act n ((t1,.bool false)::(t2,.bool false)::l) D pm ro) h K) B w0 kl F)(h2:e=true->R (λh=>aK P ds rest (act n ((t1,.bool true)::(t2,.bool true)::l) D pm ro) h K) B w0 kl F):
 R (λh=>aK P ds rest (act n ((t1,.bool e)::(t2,.bool e)::l) D pm ro) h K) B w0 kl F:=by
 cases e
 ·exact h1 rfl
 ·exact h2 rfl
theorem lV{p:Prop}{_:Decidable p}(h1:¬p->R (λh=>aK P ds rest (act n ((t1,.bool false)::(t2,.bool false)::l) D pm ro) h K) B w0 kl F)(h2:p->R (λh=>aK P ds rest (act n ((t1,.bool true)::(t2,.bool true)::l) D pm ro) h K) B w0 kl F):
 R (λh=>aK P ds rest (act n ((t1,.bool (decide p))::(t2,.bool (decide p))::l) D pm ro) h K) B w0 kl F:=
 lD (λe=>h1 (mK e)) (λe=>h2 (iw e))
theorem kV{p:Prop}{_:Decidable p}(h1:p->R (λh=>aK P ds rest (act n ((t1,.bool false)::(t2,.bool false)::l) D pm ro) h K) B w0 kl F)(h2:¬p->R (λh=>aK P ds rest (act n ((t1,.bool true)::(t2,.bool true)::l) D pm ro) h K) B w0 kl F):
 R (λh=>aK P ds rest (act n ((t1,.bool (!decide p))::(t2,.bool (!decide p))::l) D pm ro) h K) B w0 kl F:=
 lD (λe=>h1 (by simpa using e)) (λe=>h2 (by simpa using e))
end
section
variable {B:List Nat} {w0:Wd} {kl kl':List OA} {F:List aL} {K:KO} {ds:List Tmp} {rest:List bT} {n:Nat} {l:List (Nat×Value)} {D:List Deferred} {pm:Option FrameMode} {ro:Option Nat} {d:Nat} {g:Option (Tmp×Bool)}
theorem abQ{x:Operand}{t:TypeId}{v:Value}{cs:List Value}(hn:Nat.blt d n=true)(hg:bW l g=true)(hv:ev l x=v)(hx:cellsOf v=some cs):dO (R (λh=>aK P ds (⟨⟨some d,g,.box x t⟩,[]⟩::rest) (act n l D pm ro) h K) B w0 kl F)
 (∀b,R (λh=>aK P ds rest (act n ((d,.pointer (some ⟨b,0,none⟩))::l) D pm ro) h K) B w0 (pt b (.cells cs)::kl) F):=abm hn hg (by rw[hv];exact hx)
theorem abR{x y:Operand}{b o m:Nat}{cs vs c:List Value}{v:Value}(hg:bW l g=true)(hx:ev l x=.pointer (some ⟨b,o,none⟩))(hw:ev l y=v)(hy:cellsOf v=some vs)(hm:Nat.beq (iM vs) m=true)
 (hk:aA (pt b (.cells cs)) kl kl') (hv:jY cs o vs=some c):
 dO (R (λh=>aK P ds (⟨⟨none,g,.store m x y⟩,[]⟩::rest) (act n l D pm ro) h K) B w0 kl F) (R (λh=>aK P ds rest (act n l D pm ro) h K) B w0 (pt b (.cells c)::kl') F):=abv hg hx (by rw[hw];exact hy) hm hk hv
end
theorem abS{B:List Nat}{w0:Wd}{kl:List OA}{F:List aL}{K:KO}{ds:List Tmp}{rest:List bT}{n:Nat}{l:List (Nat×Value)}{D:List Deferred}{pm:Option FrameMode}{ro:Option Nat}{d:Nat}{g:Option (Tmp×Bool)}
 {fn:Fn} {first captured:List Operand} {a b:List Value} (hn:Nat.blt d n=true) (hg:bW l g=true) (h1:EvL (ev l) first a) (h2:EvL (ev l) captured b):
 dO (R (λh=>aK P ds (⟨⟨some d,g,.BH fn first captured⟩,[]⟩::rest) (act n l D pm ro) h K) B w0 kl F) (R (λh=>aK P ds rest (act n ((d,.func fn ⟨a⟩ ⟨b⟩)::l) D pm ro) h K) B w0 kl F):=gH hn hg (aaV h1 h2)
theorem go{G G':Prop}(x:G')(r:dO G G':=by
 repeat (first
  |((with_reducible apply dO.trans);first
   |with_reducible exact aaW
   |with_reducible exact aaX
   |with_reducible exact aaY
   |with_reducible exact aaZ
   |with_reducible exact aa0
   |with_reducible exact aa1
   |with_reducible exact aa2
   |with_reducible exact aa3
   |with_reducible exact aa4
   |with_reducible exact aa5
   |with_reducible exact aa6
   |with_reducible exact aa7
   |with_reducible exact aa8
   |with_reducible exact aa9
   |with_reducible exact aba
   |with_reducible exact abe
   |with_reducible exact abf
   |with_reducible exact abg
   |((with_reducible apply abb);exact rfl)
   |((with_reducible apply abd);exact rfl)
   |((with_reducible apply abh);(focus exact rfl))
   |((with_reducible apply abj);(focus exact rfl))
   |((with_reducible apply abk);(focus exact rfl);(focus exact rfl))
   |((with_reducible apply abM);(focus exact rfl);(focus exact rfl);(focus ((conv=>lhs;whnf);(first|done|fail)));(focus exact rfl);(focus (((repeat (first|with_reducible exact dJ .. |with_reducible apply dN));first|done|fail);(first|done|fail)));(focus ((omega);(first|done|fail))))
   |((with_reducible apply abN);(focus exact rfl);(focus exact rfl);(focus ((conv=>lhs;whnf);(first|done|fail)));(focus exact rfl);(focus (((repeat (first|with_reducible exact dJ .. |with_reducible apply dN));first|done|fail);(first|done|fail)));(focus ((omega);(first|done|fail))))
   |((with_reducible apply R3);(focus exact rfl);(focus exact rfl);(focus ((conv=>lhs;whnf);(first|done|fail)));(focus exact rfl);(focus (((repeat (first|with_reducible exact dJ .. |with_reducible apply dN));first|done|fail);(first|done|fail)));(focus ((omega);(first|done|fail)));(focus ((omega);(first|done|fail))))
   |((with_reducible apply R4);(focus exact rfl);(focus exact rfl);(focus ((conv=>lhs;whnf);(first|done|fail)));(focus exact rfl);(focus (((repeat (first|with_reducible exact dJ .. |with_reducible apply dN));first|done|fail);(first|done|fail)));(focus ((omega);(first|done|fail)));(focus ((omega);(first|done|fail))))
   |((with_reducible apply gH);(focus exact rfl);(focus exact rfl);(focus ((first|((with_reducible apply Hu);(focus ((conv=>lhs;whnf);(first|done|fail))))|((with_reducible apply Hw);(focus ((conv=>lhs;whnf);(first|done|fail))))|((with_reducible apply HY);(focus exact rfl))|((with_reducible apply H6);(focus exact rfl);(focus exact rfl))|((with_reducible apply H7);(focus exact rfl);(focus exact rfl))|((with_reducible apply H8);(focus exact rfl);(focus exact rfl))|((with_reducible apply H9);(focus exact rfl);(focus exact rfl))|((with_reducible apply Ia);(focus exact rfl);(focus exact rfl))|((with_reducible apply Ib);(focus exact rfl);(focus exact rfl))|((with_reducible apply HV);(focus exact rfl))|((with_reducible apply Hy);(focus exact rfl);(focus ((conv=>lhs;whnf);(first|done|fail))))|((with_reducible apply Hz);(focus exact rfl);(focus ((conv=>lhs;whnf);(first|done|fail))))|((with_reducible apply Ie);(focus exact rfl);(focus ((conv=>lhs;whnf);(first|done|fail))))|((with_reducible apply Ig);(focus exact rfl))|((with_reducible apply Ih);(focus exact rfl);(focus ((conv=>lhs;whnf);(first|done|fail))))|((with_reducible apply Ii);(focus exact rfl);(focus ((conv=>lhs;whnf);(first|done|fail))))|((with_reducible apply Ij);(focus ((conv=>lhs;whnf);(first|done|fail))))|((with_reducible apply Ik);(focus exact rfl))|((with_reducible apply Il);(focus exact rfl))|((with_reducible apply Im);(focus exact rfl))|with_reducible exact HZ|((with_reducible apply Io);(focus exact rfl);(focus exact rfl);(focus exact rfl))|((with_reducible apply IE);(focus exact rfl);(focus exact rfl);(focus ((omega);(first|done|fail))))|((with_reducible apply EQ);(focus exact rfl);(focus exact rfl);(focus ((omega);(first|done|fail)));(focus ((omega);(first|done|fail))))|((with_reducible apply Ip);(focus exact rfl);(focus exact rfl);(focus ((omega);(first|done|fail)));(focus ((omega);(first|done|fail))))|((with_reducible apply Co);(focus exact rfl);(focus exact rfl);(focus ((omega);(first|done|fail)));(focus ((omega);(first|done|fail))))|((with_reducible apply Ic);(focus exact rfl);(focus exact rfl);(focus ((omega);(first|done|fail)));(focus ((omega);(first|done|fail))))|((with_reducible apply Iw);(focus exact rfl);(focus exact rfl);(focus ((first|assumption|kernel_rfl);(first|done|fail))))|((with_reducible apply Iy);(focus exact rfl);(focus exact rfl);(focus ((first|assumption|kernel_rfl);(first|done|fail))))|((with_reducible apply Iz);(focus exact rfl);(focus exact rfl))|((with_reducible apply IA);(focus exact rfl);(focus exact rfl))|((with_reducible apply IB);(focus exact rfl);(focus exact rfl);(focus ((omega);(first|done|fail)));(focus ((omega);(first|done|fail)))));(first|done|fail))))
   |((with_reducible apply abS);(focus exact rfl);(focus exact rfl);(focus (repeat (first|with_reducible exact EvL.nil|((with_reducible apply EvL.cons);(conv=>lhs;whnf)))));(focus (repeat (first|with_reducible exact EvL.nil|((with_reducible apply EvL.cons);(conv=>lhs;whnf))))))
   |((with_reducible apply abO);(focus exact rfl);(focus exact rfl);(focus (repeat (first|with_reducible exact Fill.nil|((with_reducible apply Fill.cons);(conv=>lhs;whnf);(conv=>lhs;whnf);(focus exact rfl);(conv=>lhs;whnf))))))
   |((with_reducible apply abP);(focus exact rfl);(focus exact rfl);(focus (repeat (first|with_reducible exact Fill.nil|((with_reducible apply Fill.cons);(conv=>lhs;whnf);(conv=>lhs;whnf);(focus exact rfl);(conv=>lhs;whnf))))))
   |((with_reducible apply abQ);(focus exact rfl);(focus exact rfl);(focus ((conv=>lhs;whnf);(first|done|fail)));(focus ((conv=>lhs;whnf);(first|done|fail))))
   |((with_reducible apply abl);(focus exact rfl);(focus exact rfl))
   |((with_reducible apply abp);(focus exact rfl);(focus exact rfl);(focus exact rfl);(focus ((repeat (first|with_reducible exact aA.here|with_reducible apply aA.there|with_reducible apply aA.app));(first|done|fail)));(focus ((conv=>lhs;whnf);(first|done|fail))))
   |((with_reducible apply abq);(focus exact rfl);(focus exact rfl);(focus exact rfl);(focus ((repeat (first|with_reducible exact aA.here|with_reducible apply aA.there|with_reducible apply aA.app));(first|done|fail)));(focus ((conv=>lhs;whnf);(first|done|fail))))
   |((with_reducible apply abr);(focus exact rfl);(focus exact rfl);(focus exact rfl);(focus (((repeat (first|with_reducible exact dJ .. |with_reducible apply dN));first|done|fail);(first|done|fail)));(focus ((conv=>lhs;whnf);(first|done|fail))))
   |((with_reducible apply abt);(focus exact rfl);(focus exact rfl);(focus exact rfl);(focus (((repeat (first|with_reducible exact dJ .. |with_reducible apply dN));first|done|fail);(first|done|fail)));(focus ((conv=>lhs;whnf);(first|done|fail))))
   |((with_reducible apply abu);(focus exact rfl);(focus exact rfl);(focus exact rfl);(focus (((repeat (first|with_reducible exact dJ .. |with_reducible apply dN));first|done|fail);(first|done|fail)));(focus ((conv=>lhs;whnf);(first|done|fail))))
   |((with_reducible apply RY);(focus exact rfl);(focus exact rfl);(focus exact rfl);(focus (((repeat (first|with_reducible exact dJ .. |with_reducible apply dN));first|done|fail);(first|done|fail)));(focus ((conv=>lhs;whnf);(first|done|fail))))
   |((with_reducible apply abR);(focus exact rfl);(focus exact rfl);(focus ((conv=>lhs;whnf);(first|done|fail)));(focus ((conv=>lhs;whnf);(first|done|fail)));(focus exact rfl);(focus ((repeat (first|with_reducible exact aA.here|with_reducible apply aA.there|with_reducible apply aA.app));(first|done|fail)));(focus ((conv=>lhs;whnf);(first|done|fail))))
   |((with_reducible apply abz);(focus exact rfl);(focus exact rfl);(focus ((conv=>lhs;whnf);(first|done|fail)));(focus (((repeat (first|with_reducible exact dJ .. |with_reducible apply dN));first|done|fail);(first|done|fail))))
   |((with_reducible apply abA);(focus exact rfl);(focus exact rfl);(focus ((conv=>lhs;whnf);(first|done|fail)));(focus ((repeat (first|with_reducible exact aA.here|with_reducible apply aA.there|with_reducible apply aA.app));(first|done|fail))))
   |((with_reducible apply abI (re:=_::_));(focus exact rfl);(focus exact rfl);(focus ((first|((with_reducible apply Hu);(focus ((conv=>lhs;whnf);(first|done|fail))))|((with_reducible apply Hw);(focus ((conv=>lhs;whnf);(first|done|fail))))|((with_reducible apply HY);(focus exact rfl))|((with_reducible apply H6);(focus exact rfl);(focus exact rfl))|((with_reducible apply H7);(focus exact rfl);(focus exact rfl))|((with_reducible apply H8);(focus exact rfl);(focus exact rfl))|((with_reducible apply H9);(focus exact rfl);(focus exact rfl))|((with_reducible apply Ia);(focus exact rfl);(focus exact rfl))|((with_reducible apply Ib);(focus exact rfl);(focus exact rfl))|((with_reducible apply HV);(focus exact rfl))|((with_reducible apply Hy);(focus exact rfl);(focus ((conv=>lhs;whnf);(first|done|fail))))|((with_reducible apply Hz);(focus exact rfl);(focus ((conv=>lhs;whnf);(first|done|fail))))|((with_reducible apply Ie);(focus exact rfl);(focus ((conv=>lhs;whnf);(first|done|fail))))|((with_reducible apply Ig);(focus exact rfl))|((with_reducible apply Ih);(focus exact rfl);(focus ((conv=>lhs;whnf);(first|done|fail))))|((with_reducible apply Ii);(focus exact rfl);(focus ((conv=>lhs;whnf);(first|done|fail))))|((with_reducible apply Ij);(focus ((conv=>lhs;whnf);(first|done|fail))))|((with_reducible apply Ik);(focus exact rfl))|((with_reducible apply Il);(focus exact rfl))|((with_reducible apply Im);(focus exact rfl))|with_reducible exact HZ|((with_reducible apply Io);(focus exact rfl);(focus exact rfl);(focus exact rfl))|((with_reducible apply IE);(focus exact rfl);(focus exact rfl);(focus ((omega);(first|done|fail))))|((with_reducible apply EQ);(focus exact rfl);(focus exact rfl);(focus ((omega);(first|done|fail)));(focus ((omega);(first|done|fail))))|((with_reducible apply Ip);(focus exact rfl);(focus exact rfl);(focus ((omega);(first|done|fail)));(focus ((omega);(first|done|fail))))|((with_reducible apply Co);(focus exact rfl);(focus exact rfl);(focus ((omega);(first|done|fail)));(focus ((omega);(first|done|fail))))|((with_reducible apply Ic);(focus exact rfl);(focus exact rfl);(focus ((omega);(first|done|fail)));(focus ((omega);(first|done|fail))))|((with_reducible apply Iw);(focus exact rfl);(focus exact rfl);(focus ((first|assumption|kernel_rfl);(first|done|fail))))|((with_reducible apply Iy);(focus exact rfl);(focus exact rfl);(focus ((first|assumption|kernel_rfl);(first|done|fail))))|((with_reducible apply Iz);(focus exact rfl);(focus exact rfl))|((with_reducible apply IA);(focus exact rfl);(focus exact rfl))|((with_reducible apply IB);(focus exact rfl);(focus exact rfl);(focus ((omega);(first|done|fail)));(focus ((omega);(first|done|fail)))));(first|done|fail)));(focus ((repeat (first|exact Cr|refine Cs rfl (by repeat (first|with_reducible exact aA.here|with_reducible apply aA.there|with_reducible apply aA.app)) (by first|exact rfl|(conv=>lhs;whnf)) rfl ?_|refine ES rfl (by(repeat (first|with_reducible exact dJ .. |with_reducible apply dN));first|done|fail) (by first|exact rfl|(conv=>lhs;whnf)) rfl ?_|refine ET rfl (by(repeat (first|with_reducible exact dJ .. |with_reducible apply dN));first|done|fail) (by first|exact rfl|(conv=>lhs;whnf)) rfl ?_|refine EU rfl (by repeat (first|with_reducible exact aA.here|with_reducible apply aA.there|with_reducible apply aA.app)) (by first|exact rfl|(conv=>lhs;whnf)) rfl ?_|refine EW rfl (by(repeat (first|with_reducible exact dJ .. |with_reducible apply dN));first|done|fail) (by first|exact rfl|(conv=>lhs;whnf)) rfl ?_|refine EX rfl (by(repeat (first|with_reducible exact dJ .. |with_reducible apply dN));first|done|fail) (by first|exact rfl|(conv=>lhs;whnf)) rfl ?_));(first|done|fail))))
   |((with_reducible apply abH (re:=_::_));(focus exact rfl);(focus exact rfl);(focus ((conv=>lhs;whnf);(first|done|fail)));(focus ((conv=>lhs;whnf);(first|done|fail)));(focus exact rfl);(focus ((repeat (first|with_reducible exact aA.here|with_reducible apply aA.there|with_reducible apply aA.app));(first|done|fail)));(focus ((conv=>lhs;whnf);(first|done|fail)));(focus ((repeat (first|exact Cr|refine Cs rfl (by repeat (first|with_reducible exact aA.here|with_reducible apply aA.there|with_reducible apply aA.app)) (by first|exact rfl|(conv=>lhs;whnf)) rfl ?_|refine ES rfl (by(repeat (first|with_reducible exact dJ .. |with_reducible apply dN));first|done|fail) (by first|exact rfl|(conv=>lhs;whnf)) rfl ?_|refine ET rfl (by(repeat (first|with_reducible exact dJ .. |with_reducible apply dN));first|done|fail) (by first|exact rfl|(conv=>lhs;whnf)) rfl ?_|refine EU rfl (by repeat (first|with_reducible exact aA.here|with_reducible apply aA.there|with_reducible apply aA.app)) (by first|exact rfl|(conv=>lhs;whnf)) rfl ?_|refine EW rfl (by(repeat (first|with_reducible exact dJ .. |with_reducible apply dN));first|done|fail) (by first|exact rfl|(conv=>lhs;whnf)) rfl ?_|refine EX rfl (by(repeat (first|with_reducible exact dJ .. |with_reducible apply dN));first|done|fail) (by first|exact rfl|(conv=>lhs;whnf)) rfl ?_));(first|done|fail))))
   |fail)
  |((with_reducible apply dO.all);intro _)
  |with_reducible apply dO.imp)
 with_reducible exact dO.refl _):G:=r.h x
theorem pX{B:List Nat}{w0:Wd}{kl:List OA}{F:List aL}{K:KO}{c:dm}{a:aX}(r:R (λh=>EV P c a h (yQ P (.loop c) K)) B w0 kl F):R (λh=>EV P (.loop c) a h K) B w0 kl F:=λw s=>
 .loop _ (r w s) (λ_ _ hm=>hm) (λo a' h' hm hn=>by
  cases o with
  |normal=>exact absurd rfl hn
  |_=>exact hm)
theorem j6.sub{α:Type}{F0:List α}:∀{F:List α},j6 F0 F->Sub F0 F:=λ{F} h=>by
 have:∀k:List α,(∀x∈k,x∈F)->Sub k F:=by
  intro k;induction k with
  |nil=>intro _;exact .nil
  |cons a k ih=>intro hk;exact .cons (hk a (dJ ..)) (ih λx hx=>hk x (dN _ hx))
 exact this F0 h.mem
inductive aY{α:Type}:List α->List α->List α->Prop
 |nil {l:List α}:aY [] l l
 |cons {a:α} {k l m:List α} (h:aY k l m):aY (a::k) l (a::m)
 |self {k:List α}:aY k [] k
 |app {k l:List α}:aY k l (k++l)
theorem aY.eq{α:Type}:∀{k l m:List α},aY k l m->k++l=m
 |_,_,_,.nil=>rfl
 |_,_,_,.self=>gV _
 |_,_,_,.app=>rfl
 |_,_,_,.cons h=>by rw[dW,h.eq]
section
variable {B:List Nat} {w0:Wd} {kl kl' bA:List OA} {F:List aL} {K:KO} {ds:List Tmp} {rest:List bT} {n:Nat} {l:List (Nat×Value)} {D:List Deferred} {pm:Option FrameMode} {ro:Option Nat} {d:Nat} {g:Option (Tmp×Bool)}
theorem aj{Y:Type}{f:Operand}{xs:List Operand}{re:List iD}{fn:Fn}{first captured vs as:List Value}{k1:List OA}{F1:List aL}{val:Y->Value}{k1':Y->List OA}{fs:Y->List aL}{pr:Y->Prop}{dX:Y->List OA}{F2:Y->List aL}
 (hc:aV P fn as captured k1 F1 val k1' fs pr) (hn:Nat.blt d n=true:=by rfl) (hg:bW l g=true:=by rfl) (hf:ev l f=.func fn ⟨first⟩ ⟨captured⟩:=by rfl) (hx:EvL (ev l) xs vs:=by repeat (first|with_reducible exact EvL.nil|((with_reducible apply EvL.cons);(conv=>lhs;whnf)))) (ha:first++vs=as:=by rfl)
 (hk:aJ k1 kl bA:=by exact mh) (hF:Sub F1 F:=by exact mg)
 (hak:∀y,aY (k1' y) bA (dX y):=by intro y;repeat (first|exact aY.nil|apply aY.cons|exact aY.self|exact aY.app)) (yV:∀y,aY (fs y) F (F2 y):=by intro y;repeat (first|exact aY.nil|apply aY.cons|exact aY.self|exact aY.app))
 (hs:∀y,pr y->Same P re (ev ((d,val y)::l)) ((d,val y)::l) B w0 (dX y) (F2 y):=by intro _ _;repeat (first|exact Cr|refine Cs rfl (by repeat (first|with_reducible exact aA.here|with_reducible apply aA.there|with_reducible apply aA.app)) (by first|exact rfl|(conv=>lhs;whnf)) rfl ?_|refine ES rfl (by(repeat (first|with_reducible exact dJ .. |with_reducible apply dN));first|done|fail) (by first|exact rfl|(conv=>lhs;whnf)) rfl ?_|refine ET rfl (by(repeat (first|with_reducible exact dJ .. |with_reducible apply dN));first|done|fail) (by first|exact rfl|(conv=>lhs;whnf)) rfl ?_|refine EU rfl (by repeat (first|with_reducible exact aA.here|with_reducible apply aA.there|with_reducible apply aA.app)) (by first|exact rfl|(conv=>lhs;whnf)) rfl ?_|refine EW rfl (by(repeat (first|with_reducible exact dJ .. |with_reducible apply dN));first|done|fail) (by first|exact rfl|(conv=>lhs;whnf)) rfl ?_|refine EX rfl (by(repeat (first|with_reducible exact dJ .. |with_reducible apply dN));first|done|fail) (by first|exact rfl|(conv=>lhs;whnf)) rfl ?_|refine R8 (by first|((with_reducible apply Hu);(focus ((conv=>lhs;whnf);(first|done|fail))))|((with_reducible apply Hw);(focus ((conv=>lhs;whnf);(first|done|fail))))|((with_reducible apply HY);(focus exact rfl))|((with_reducible apply H6);(focus exact rfl);(focus exact rfl))|((with_reducible apply H7);(focus exact rfl);(focus exact rfl))|((with_reducible apply H8);(focus exact rfl);(focus exact rfl))|((with_reducible apply H9);(focus exact rfl);(focus exact rfl))|((with_reducible apply Ia);(focus exact rfl);(focus exact rfl))|((with_reducible apply Ib);(focus exact rfl);(focus exact rfl))|((with_reducible apply HV);(focus exact rfl))|((with_reducible apply Hy);(focus exact rfl);(focus ((conv=>lhs;whnf);(first|done|fail))))|((with_reducible apply Hz);(focus exact rfl);(focus ((conv=>lhs;whnf);(first|done|fail))))|((with_reducible apply Ie);(focus exact rfl);(focus ((conv=>lhs;whnf);(first|done|fail))))|((with_reducible apply Ig);(focus exact rfl))|((with_reducible apply Ih);(focus exact rfl);(focus ((conv=>lhs;whnf);(first|done|fail))))|((with_reducible apply Ii);(focus exact rfl);(focus ((conv=>lhs;whnf);(first|done|fail))))|((with_reducible apply Ij);(focus ((conv=>lhs;whnf);(first|done|fail))))|((with_reducible apply Ik);(focus exact rfl))|((with_reducible apply Il);(focus exact rfl))|((with_reducible apply Im);(focus exact rfl))|with_reducible exact HZ|((with_reducible apply Io);(focus exact rfl);(focus exact rfl);(focus exact rfl))|((with_reducible apply IE);(focus exact rfl);(focus exact rfl);(focus ((omega);(first|done|fail))))|((with_reducible apply EQ);(focus exact rfl);(focus exact rfl);(focus ((omega);(first|done|fail)));(focus ((omega);(first|done|fail))))|((with_reducible apply Ip);(focus exact rfl);(focus exact rfl);(focus ((omega);(first|done|fail)));(focus ((omega);(first|done|fail))))|((with_reducible apply Co);(focus exact rfl);(focus exact rfl);(focus ((omega);(first|done|fail)));(focus ((omega);(first|done|fail))))|((with_reducible apply Ic);(focus exact rfl);(focus exact rfl);(focus ((omega);(first|done|fail)));(focus ((omega);(first|done|fail))))|((with_reducible apply Iw);(focus exact rfl);(focus exact rfl);(focus ((first|assumption|kernel_rfl);(first|done|fail))))|((with_reducible apply Iy);(focus exact rfl);(focus exact rfl);(focus ((first|assumption|kernel_rfl);(first|done|fail))))|((with_reducible apply Iz);(focus exact rfl);(focus exact rfl))|((with_reducible apply IA);(focus exact rfl);(focus exact rfl))|((with_reducible apply IB);(focus exact rfl);(focus exact rfl);(focus ((omega);(first|done|fail)));(focus ((omega);(first|done|fail))))) rfl ?_))
 (next:∀y,pr y->R (λh=>aK P ds rest (act n ((d,val y)::l) D pm ro) h K) B w0 (dX y) (F2 y)):
 R (λh=>aK P ds (⟨⟨some d,g,.call f xs⟩,re⟩::rest) (act n l D pm ro) h K) B w0 kl F:=
 abJ hc hn hg hf hx ha hk hF (λy hy=>by rw[(hak y).eq,(yV y).eq];exact hs y hy) (λy hy=>by rw[(hak y).eq,(yV y).eq];exact next y hy)
abbrev bV(P:Program)(f:FuncId)(args:List Value)(F:List aL)(v:Value):Prop:=aV P (.func f) args [] [] F (λ_:Unit=>v) (λ_=>[]) (λ_=>[]) (λ_=>True)
theorem aC{Y:Type}{f:FuncId}{args cap:List Value}{kl:List OA}{F:List aL}{val:Y->Value}{kl':Y->List OA}{fs:Y->List aL}{pr:Y->Prop}{c:dm}{m:Nat}{l0:List (Nat×Value)}(cf:gW)(hF:(pK P qB pM).F f=some cf)
 (hb:∀B w0,R (λh=>EV P c (act m l0 [] none none) h (Ck cf (Left B w0 val kl' fs pr))) B w0 kl F)
 (h1:cf.body=c:=by conv=>lhs;(reduce;(try simp only[Int.reduceOfNat,Int.reduceNegSucc]))) (h2:rA cf.ntmps (iM (args++cap))=m:=by conv=>lhs;whnf) (h3:pW 0 (args++cap) []=l0:=by dsimp only[pW,Nat.reduceAdd,List.append_nil,List.cons_append,List.nil_append]):aV P (.func f) args cap kl F val kl' fs pr:=
 abF cf hF (by rw[h1,h2,h3];exact hb)
theorem aU{α:Type}(E:Enc α){x i:Operand}{v:Value}{xs:List α}{size:Nat}{k:Nat}{kk:IntKind}{F2:α->E.Y->List aL}(hn:Nat.blt d n=true:=by rfl)(hg:bW l g=true:=by rfl)(hx:ev l x=v:=by conv=>lhs;whnf)(hi:ev l i=.int kk (k:Int):=by rfl)
 (hf:ah E v xs∈F:=by exact vL) (hs:E.n=size:=by rfl) (h1:k<xs.length:=by omega)
 (ha:∀z y,aY (E.fs z y) F (F2 z y):=by intro z y;repeat (first|exact aY.nil|apply aY.cons|exact aY.self|exact aY.app))
 (next:∀b o z y,xs[k]? =some z->R (λh=>aK P ds rest (act n ((d,.pointer (some ⟨b,o,none⟩))::l) D pm ro) h K) B w0 kl (bZ b o (E.pat z y)::F2 z y)):
 R (λh=>aK P ds (⟨⟨some d,g,.nT size x i⟩,[]⟩::rest) (act n l D pm ro) h K) B w0 kl F:=
 (Mx hn hg hx hi hf hs (by omega) (by omega)).h λb o z y hz=>by rw[(ha z y).eq];exact next b o z y (by simpa using hz)
theorem ae{Y:Type}{o:Out}{cf:gW}{vs:List Value}{val:Y->Value}{k1:Y->List OA}{fs:Y->List aL}{pr:Y->Prop}(y:Y)
 (hr:RS l kl cf.results vs:=by exact Ak) (hv:rO vs=val y:=by rfl) (hp:pr y)
 (hk:aJ (k1 y) kl bA:=by exact mh) (hF:Sub (fs y) F:=by exact mg)
 (ho:o=.normal\/o=.ret:=by first|exact .inl rfl|exact .inr rfl):R (λh=>Ck cf (Left B w0 val k1 fs pr) o (act n l [] none ro) h) B w0 kl F:=
 R9 y hr hv hp hk hF ho
theorem aW{A:OA}{fs F2:List aL}{Q:IH->Prop}(hA:rH A fs)(hk:aA A kl kl':=by exact gz)(ha:aY fs F F2:=by repeat (first|exact aY.nil|apply aY.cons|exact aY.self|exact aY.app))(h:R Q B w0 kl' F2):R Q B w0 kl F:=
 abB hA hk (by rw[ha.eq];exact h)
theorem aR{X:Type}{c:dm}{l0:List (Nat×Value)}{L2:X->List (Nat×Value)}{yX:X->List OA}{yY:X->List aL}(m:X->Nat)(L:X->List (Nat×Value))(KL:X->List OA)(FF:X->List aL)(inv:X->Prop)(x0:X)(hi:inv x0)
 (h0:oL l (L x0) l0:=by repeat (first|exact oL.nil|(apply oL.drop;(focus exact rfl))|(apply oL.keep;(focus exact rfl)))) (hl:sub (L x0++l0) l:=by repeat (first|exact trivial|refine⟨rfl,?_⟩))
 (hk:aJ (KL x0) kl bA:=by exact mh) (hF:Sub (FF x0) F:=by exact mg)
 (hak:∀x,aY (KL x) bA (yX x):=by intro y;repeat (first|exact aY.nil|apply aY.cons|exact aY.self|exact aY.app)) (yV:∀x,aY (FF x) F (yY x):=by intro y;repeat (first|exact aY.nil|apply aY.cons|exact aY.self|exact aY.app))
 (hal:∀x,aY (L x) l0 (L2 x):=by intro y;repeat (first|exact aY.nil|apply aY.cons|exact aY.self|exact aY.app))
 (body:∀x,inv x->R (λh=>EV P c (act n (L2 x) D pm ro) h (uK (LI n D pm ro B w0 m L KL FF inv l0 bA F) (m x) K)) B w0 (yX x) (yY x)):
 R (λh=>EV P (.loop c) (act n l D pm ro) h K) B w0 kl F:=
 abK m L KL FF inv x0 hi l0 hl hk hF λx hx=>by rw[(hak x).eq,(yV x).eq,(hal x).eq];exact body x hx
theorem aD{X:Type}{m:X->Nat}{L:X->List (Nat×Value)}{KL:X->List OA}{FF:X->List aL}{inv:X->Prop}{l0:List (Nat×Value)}{yZ dX:List OA}{F0:List aL}{m0:Nat}(x:X)(hm:m x<m0)(hi:inv x)
 (hl:sub (L x++l0) l:=by repeat (first|exact trivial|refine⟨rfl,?_⟩)) (ha:aY (KL x) bA yZ:=by repeat (first|exact aY.nil|apply aY.cons|exact aY.self|exact aY.app))
 (hk:aJ yZ kl dX:=by exact mh) (hF:Sub (FF x) F:=by exact mg)
 (wY:j6 F0 F:=by repeat (first|exact j6.here|apply j6.cons|apply j6.app)):
 R (λh=>uK (LI n D pm ro B w0 m L KL FF inv l0 bA F0) m0 K .normal (act n l D pm ro) h) B w0 kl F:=
 abL x hm hi hl (by rw[ha.eq];exact hk) hF wY
end
end Go.Ideal
namespace Go.Ideal
class Ct (e:Bool) (f t:outParam Prop):Prop where
 no:e=false->f
 yes:e=true->t
instance (priority:=low) ajM {e:Bool}:Ct e (e=false) (e=true):=⟨id,id⟩
instance ajN {p:Prop} {_:Decidable p}:Ct (decide p) (¬p) p:=⟨mK,iw⟩
instance ajO {p:Prop} {_:Decidable p}:Ct (!decide p) p (¬p):=⟨λe=>by simpa using e,λe=>by simpa using e⟩
section
variable {P:Program}
variable {B:List Nat} {w0:Wd} {kl:List OA} {F:List aL} {K:KO} {ds:List Tmp} {rest:List bT} {n:Nat} {l:List (Nat×Value)} {D:List Deferred} {pm:Option FrameMode} {ro:Option Nat} {t1 t2:Nat}
theorem gG{e:Bool}{f t:Prop}[Ct e f t](h1:f->R (λh=>aK P ds rest (act n ((t1,.bool false)::(t2,.bool false)::l) D pm ro) h K) B w0 kl F)(h2:t->R (λh=>aK P ds rest (act n ((t1,.bool true)::(t2,.bool true)::l) D pm ro) h K) B w0 kl F):
 R (λh=>aK P ds rest (act n ((t1,.bool e)::(t2,.bool e)::l) D pm ro) h K) B w0 kl F:=
 lD (λx=>h1 (Ct.no x)) (λx=>h2 (Ct.yes x))
end
section
instance ajP {n:Nat}:OfNat Operand n:=⟨.tmp n⟩
abbrev kI(n:Int):Operand:=.const (.int .i64 n)
abbrev vI:Value:=.int .i64 0
abbrev vS:Value:=.slice none 0 0
abbrev vE:Value:=.string ⟨⟨[]⟩⟩
abbrev kC(f:Nat)(l:List Operand):aG:=.call (.func f) l
abbrev kS(n:Nat)(e:aG):bT:=⟨⟨some n,none,e⟩,[]⟩
abbrev kN(e:aG):bT:=⟨⟨none,none,e⟩,[]⟩
abbrev kM(n:Nat)(x:Operand):bT:=kS n (.mv x)
abbrev kO(l:List bT):dm:=.ops (l.filterMap λx=>x.s.dst) l
end
end Go.Ideal
namespace Go.Ideal
theorem abT{P:Program}{f:FuncId}{v:Value}(hs:∀h,CALL P ⟨.func f,[],[],none⟩ h (λr pm h'=>pm=none/\r=.ok v/\h'=h)):bV P f [] [] v:=λB w s=>
 .vH _ (hs w.h) (by rintro r pm h' ⟨rfl,rfl,rfl⟩;exact⟨rfl,w,(),rfl,s,rfl,trivial⟩)
noncomputable def IG(L:Lay):Wd:=⟨kz L,λi=>i<(kz L).next,λ_ h=>h⟩
end Go.Ideal
namespace Go.Ideal
open Go.ChangeShapes Go.WideShapes Go.ChangeAt Go.RowKit
variable {P:Program}
def Cu{α:Type}(P:Program)(t:TypeId)(E:Enc α):Prop:=∀(w:Wd) (H:Type) (d:DataW H) (cs:List Value),(∀i,i<w.h.next->w.z i)->iE P w.h t cs d->∃a y,cs=E.pat a y/\∀f∈E.fs a y,f.p w
theorem MF{α:Type}{p:Nat->α->Prop}:∀n,(∀k,k<n->∃a,p k a)->∃l:List α,l.length=n/\∀(k:Nat) a,l[k]? =some a->p k a
 |0,_=>⟨[],rfl,λk a h=>by cases h⟩
 |n+1,h=>by
  obtain⟨l,h1,h2⟩:=MF n (λk hk=>h k (by omega));obtain⟨a,ha⟩:=h n (by omega);refine⟨l++[a],by simp[h1],λk b hb=>?_⟩;by_cases hk:k<l.length
  ·rw[qY hk]at hb;exact h2 k b hb
  ·rw[uZ (by omega)]at hb;have hk0:k=n:=by have:=(bK.1 hb).1;simp at this;omega
   subst hk0;rw[h1]at hb;simp at hb;subst hb;exact ha
def Sa{α β:Type}(E1:Enc α)(E2:Enc β):Enc (α×β):=⟨E1.n+E2.n,E1.Y×E2.Y,λa y=>E1.pat a.1 y.1++E2.pat a.2 y.2,λa y=>E1.fs a.1 y.1++E2.fs a.2 y.2,λa y=>by rw[gU,E1.len,E2.len]⟩
def Sb:Enc Unit:=⟨0,Unit,λ_ _=>[],λ_ _=>[],λ_ _=>rfl⟩
inductive Cv(P:Program):{α:Type}->List Field->Enc α->Prop
 |nil:Cv P [] Sb
 |cons {α β:Type} {f:Field} {fs:List Field} {E1:Enc α} {E2:Enc β} (h:Cu P f.type E1) (hn:P.cellsOf f.type=E1.n) (t:Cv P fs E2):Cv P (f::fs) (Sa E1 E2)
theorem Cv.II{w:Wd}{H:Type}(hz:∀i,i<w.h.next->w.z i):∀{α:Type} {fs:List Field} {E:Enc α},Cv P fs E->∀(o0:Nat) (cs:List Value) (ds:List (DataW H)),cs.length=(fs.map λf=>P.cellsOf f.type).sum->ds.length=fs.length->
 fs.map (·.offset)=sums o0 (fs.map λf=>P.cellsOf f.type)->(∀(j:Nat) f d,fs[j]? =some f->ds[j]? =some d->iE P w.h f.type ((cs.drop (f.offset - o0)).take (P.cellsOf f.type)) d)->∃a y,cs=E.pat a y/\∀f∈E.fs a y,f.p w
 |_,_,_,.nil,o0,cs,ds,h1,h2,h3,h4=>⟨(),(),jQ.1 (by simpa using h1),λf hf=>by cases hf⟩
 |_,_,_,.cons (f:=f) (fs:=fs) (E1:=E1) (E2:=E2) h hn t,o0,cs,ds,h1,h2,h3,h4=>by
  match ds,h2 with
  |d::ds,h2=>
   simp only[ik,List.sum_cons,sums,Bw]at h1 h3;obtain⟨ho,h3⟩:=h3;have r0:=h4 0 f d rfl rfl;rw[ho,BB,DC]at r0;obtain⟨a,y,q1,q2⟩:=h w H d _ hz r0;obtain⟨b,z,u1,u2⟩:=Cv.II hz t (o0+P.cellsOf f.type) (cs.drop (P.cellsOf f.type)) ds (by rw[ww];omega) (by simpa using h2) h3 (λj g e hg he=>by
    have:=h4 (j+1) g e hg he;rw[List.drop_drop];have hle:o0+P.cellsOf f.type<=g.offset:=by
     have hj:(fs.map (·.offset))[j]? =some g.offset:=by rw[fw,hg];rfl
     rw[h3]at hj;have hs:(fs.map λf=>P.cellsOf f.type)[j]? =some (P.cellsOf g.type):=by rw[fw,hg];rfl
     exact(yS _ ([]:List Value) (o0+P.cellsOf f.type) j _ _ hj hs).2
    rw[show P.cellsOf f.type+(g.offset - (o0+P.cellsOf f.type))=g.offset - o0 by omega];exact this)
   refine⟨(a,b),(y,z),?_,?_⟩
   ·show cs=E1.pat a y++E2.pat b z;rw[<- q1,<- u1,su]
   ·intro g hg;rcases dB.1 hg with hg|hg
    ·exact q2 g hg
    ·exact u2 g hg
theorem Cu.conv{α β:Type}{t:TypeId}{E:Enc α}{E':Enc β}(h:Cu P t E)(hc:∀a y,∃b z,E.pat a y=E'.pat b z/\E.fs a y=E'.fs b z):Cu P t E':=λw H d cs hz r=>by
 obtain⟨a,y,q1,q2⟩:=h w H d cs hz r;obtain⟨b,z,e1,e2⟩:=hc a y;exact⟨b,z,by rw[q1,e1],λf hf=>q2 f (by rw[e2];exact hf)⟩
section
variable {H:Type} {enc:TypeId×Value->H} {W:World} {K:TypeId->Prop}
def vM(P:Program)(w:Wd)(t:TypeId)(v:Value){H:Type}(d:DataW H):Prop:=∃cs,iE P w.h t cs d/\((jG P t=true/\v=.agg ⟨cs⟩)\/(jG P t=false/\cs=[v]))
theorem vM.agg{α:Type}{w:Wd}{t:TypeId}{v:Value}{d:DataW H}{E:Enc α}(h:vM P w t v d)(hz:∀i,i<w.h.next->w.z i)(ha:jG P t=true)(hr:Cu P t E):∃a y,v=.agg ⟨E.pat a y⟩/\∀f∈E.fs a y,f.p w:=by
 obtain⟨cs,r,⟨_,e⟩|⟨e,_⟩⟩:=h
 ·obtain⟨a,y,rfl,q⟩:=hr w H d cs hz r;exact⟨a,y,e,q⟩
 ·rw[ha]at e;cases e
theorem vM.one{α:Type}{w:Wd}{t:TypeId}{v:Value}{d:DataW H}{E:Enc α}(h:vM P w t v d)(hz:∀i,i<w.h.next->w.z i)(ha:jG P t=false)(hr:Cu P t E):∃a y,E.pat a y=[v]/\∀f∈E.fs a y,f.p w:=by
 obtain⟨cs,r,⟨e,_⟩|⟨_,e⟩⟩:=h
 ·rw[ha]at e;cases e
 ·obtain⟨a,y,q0,q⟩:=hr w H d cs hz r;exact⟨a,y,by rw[<- q0,e],q⟩
theorem abU{L:Lay}{t:TypeId}{v v0:Value}{d:DataW H}{w:Wd}(hw:w.h=kz L)(r:yT P (kz L) t v d)(hv:VR (j5 L) v v0)(hok:Value.okWide P W .any 0 t v0):vM P w t v d:=by
 obtain⟨cs,r1,h2,h3⟩:=r;refine⟨cs,by rw[hw];exact r1,?_⟩;cases ha:jG P t with
 |true=>
  left;refine⟨rfl,?_⟩;rcases h3 with e|e
  ·subst e;have hagg:∃c,v0=.agg c:=by
    unfold jG at ha;unfold Value.okWide at hok;split at ha
    ·rename_i fs hu;rw[hu]at hok;obtain⟨c,e,_⟩:=hok;exact⟨c,e⟩
    ·rename_i n e hu;rw[hu]at hok;obtain⟨c,e,_⟩:=hok;exact⟨c,e⟩
    ·cases ha
   obtain⟨c,rfl⟩:=hagg
   exfalso
   cases hv<;>simp[cellV]at h2
  ·exact e
 |false=>
  right;refine⟨rfl,?_⟩;rcases h3 with e|e
  ·exact e
  ·subst e
   exfalso
   cases hv with
   |agg hc hl=>
    cases hu:P.underlying t with
    |none=>simp[Value.okWide,Cell.okWide,Cell.ok,hu]at hok
    |some d=>cases d<;>simp[Value.okWide,Cell.okWide,Cell.ok,jG,hu]at hok ha
theorem abV{ts:List TypeId}{vs' vs:List Value}{L:Lay}(hv:bi (j5 L) vs' vs):∀(j:Nat) v',vs'[j]? =some v'->∃v,vs[j]? =some v/\VR (j5 L) v' v:=by
 intro j;induction j generalizing vs' vs with
 |zero=>
  intro v' h;cases hv with
  |nil=>cases h
  |cons h1 h2=>cases h;exact⟨_,rfl,h1⟩
 |succ j ih=>
  intro v' h;cases hv with
  |nil=>cases h
  |cons h1 h2=>exact ih h2 v' h
theorem Sc{a:Nat}{b:Nat->Bool}{c:Bool}:∀{ts:List TypeId} {vs:List Value} {ds:List (DataW H)} {ps:List MemPlace},DataW.TrodAll enc P W a b c ts vs ds ps->vs.length=ts.length/\ds.length=ts.length
 |[],[],[],_,_=>⟨rfl,rfl⟩
 |_::_,_::_,_::_,_,⟨_,_,_,h,_⟩=>by
  have:=Sc h;simp[this.1,this.2]
theorem Sd{α:Type}{l:List α}(h:l.length=4):∃a b c d,l=[a,b,c,d]:=by
 match l,h with
 |[a,b,c,d],_=>exact⟨a,b,c,d,rfl⟩
theorem abW(Ab:P.follows .mixedOrders=true)(hgl:P.globals.size=0){f:FuncId}(fn:Func)(hfn:P.funcs[f]? =some fn)(hbody:fn.body.isNone=false)(hname:(fn.name== "runtime.NumGoroutine")=false)
 (hK:∀t,K t->PlainT P K t) {ts:List TypeId} {vs:List Value} {ds:List (DataW H)} {ps:List MemPlace} (hT:∀t∈ts,K t) (hok:∀(j:Nat) t v,ts[j]? =some t->vs[j]? =some v->Value.okWide P W .any 0 t v)
 (hA:DataW.TrodAll enc P W 0 (λ_=>true) true ts vs ds ps)
 (abX:∀(w:Wd) (vs':List Value),(∀i,i<w.h.next->w.z i)->vs'.length=vs.length->(∀(j:Nat) t v d,ts[j]? =some t->vs'[j]? =some v->ds[j]? =some d->vM P w t v d)->∃F,(∀f∈F,f.p w)/\bV P f vs' F (.bool true)):
 Calls P f ⟨vs⟩ W (λe w'=>e=.returned (.bool true)/\Below W.heap.size W w'):=by
 obtain⟨M,vs',h1,h2,h3⟩:=RQ hK hT hok hA [];rw[bY]at h1 h2;refine aaH Ab hgl fn hfn hbody hname (L:=M) (args:=vs') (λi g cs hi=>h3 i g cs (bJ _) (by simpa using hi)|>λq=>by simpa using q) h1 rfl ?_;have hlen:vs'.length=vs.length:=by
  have:∀{a b:List Value},bi (j5 M) a b->a.length=b.length:=by
   intro a;induction a with
   |nil=>intro b h;cases h;rfl
   |cons x a ih=>intro b h;cases h with|cons q r=>simp[ih r]
  exact this h1
 obtain⟨F,hF,hfn'⟩:=abX (IG M) vs' (λi hi=>hi) hlen (λj t v d ht hv hd=>by
  obtain⟨v0,e,rF⟩:=abV (ts:=ts) h1 j v hv;exact abU rfl (h2 j t v d ht hv hd) rF (hok j t v0 ht e))
 have st:St [] (IG M) [] F (IG M):=⟨⟨bU _,λ_ _ _=>rfl,λ_ _=>rfl⟩,Wd.Le.refl _,λi _ hz=>.inl hz,⟨[],rfl,wz,λi hi=>by cases hi⟩,hF⟩
 refine .vH _ (hfn' [] (IG M) st) ?_;rintro r pm h' ⟨rfl,w',y,rfl,s,rfl,_⟩;exact⟨rfl,rfl,⟨s.agree.next,λi hi=>s.agree.get i hi (by simp),λhl=>s.agree.low hl (by simp)⟩⟩
end
