/-
  Part IdealKW.
-/
import Derived.Test.YtfakljdleblkoaaGreatIdealJW
import Derived.Test.YtfakljdleblkoaaGreatIdealIW
set_option linter.all false
namespace Go.Ideal
variable{p:Prop}
theorem oJ(h:p:=by repeat (first|exact Sub.nil|(apply Sub.cons;(focus ((repeat (first|with_reducible exact cZ .. |with_reducible apply dA));first|done|fail)))|exact lG.sub (by repeat (first|with_reducible exact lG.here|with_reducible apply lG.cons|with_reducible apply lG.app)))):p:=h
theorem oK(h:p:=by repeat (first|exact aI.nil|(apply aI.cons;(focus (repeat (first|with_reducible exact ay.here|with_reducible apply ay.there|with_reducible apply ay.app))))|with_reducible exact aI.all _|with_reducible exact aI.self _ _|with_reducible apply aI.there)):p:=h
theorem iw(h:p:=by repeat (first|with_reducible exact ay.here|with_reducible apply ay.there|with_reducible apply ay.app)):p:=h
theorem BN(h:p:=by repeat (first|exact RS.nil|(apply RS.tmp;(conv=>lhs;whnf))|(apply RS.cell1;(focus exact rfl);(focus (repeat (first|with_reducible exact ay.here|with_reducible apply ay.there|with_reducible apply ay.app)));(conv=>lhs;whnf))|(apply RS.qg;(focus exact rfl);(focus (repeat (first|with_reducible exact ay.here|with_reducible apply ay.there|with_reducible apply ay.app)));(conv=>lhs;whnf)))):p:=h
theorem vF(h:p:=by(repeat (first|with_reducible exact cZ .. |with_reducible apply dA));first|done|fail):p:=h
variable {P:Program}
section
variable {B:List Nat} {w0:Wd} {kl:List OA} {F:List aK} {K:KO} {ds:List Tmp} {rest:List bT} {n:Nat} {l:List (Nat×Value)} {D:List Deferred} {pm:Option FrameMode} {ro:Option Nat} {d:Nat} {g:Option (Tmp×Bool)}
variable{x i:Operand}{v:Value}{k:Nat}{kk:IntKind}
theorem abD{xs:List Int}(hn:Nat.blt d n=true)(hg:bZ l g=true)(hx:ev l x=v)(hi:ev l i=.int kk (k:Int))(hf:ai ae v xs∈F)(h1:k<xs.length):
 dN (R (λh=>aG P ds (⟨⟨some d,g,.nG 1 x i⟩,[]⟩::rest) (act n l D pm ro) h K) B w0 kl F)
  (∀b o z,xs[k]? =some z->R (λh=>aG P ds rest (act n ((d,.pointer (some ⟨b,o,none⟩))::l) D pm ro) h K) B w0 kl (fA b o [.int .i64 z]::F)):=
 ⟨λr=>(Rh hn hg hx hi hf vj vj).h λb o z hz=>r b o z (by simpa using hz)⟩
theorem abE{xs:List Bool}(hn:Nat.blt d n=true)(hg:bZ l g=true)(hx:ev l x=v)(hi:ev l i=.int kk (k:Int))(hf:ai Rc v xs∈F)(h1:k<xs.length):
 dN (R (λh=>aG P ds (⟨⟨some d,g,.nG 1 x i⟩,[]⟩::rest) (act n l D pm ro) h K) B w0 kl F)
  (∀b o z,xs[k]? =some z->R (λh=>aG P ds rest (act n ((d,.pointer (some ⟨b,o,none⟩))::l) D pm ro) h K) B w0 kl (fA b o [.bool z]::F)):=
 ⟨λr=>(Ri hn hg hx hi hf vj vj).h λb o z hz=>r b o z (by simpa using hz)⟩
end
inductive Fill(ρ:Operand->Value):List Value->List (Nat×Nat×Operand)->List Value->Prop
 |nil {cs:List Value}:Fill ρ cs [] cs
 |cons {cs vs cs' r:List Value} {off size:Nat} {x:Operand} {parts:List (Nat×Nat×Operand)} {v:Value} (h0:ρ x=v) (h1:cellsOf v=some vs) (h2:Nat.beq (iF vs) size=true) (h3:jK cs off vs=some cs') (t:Fill ρ cs' parts r):Fill ρ cs ((off,size,x)::parts) r
theorem Fill.eq{ρ:Operand->Value}:∀{zero:List Value} {parts:List (Nat×Nat×Operand)} {cs:List Value},Fill ρ zero parts cs->qP ρ zero parts=some cs
 |_,_,_,.nil=>rfl
 |cs0,_,_,.cons (off:=off) (size:=size) (x:=x) (parts:=parts) h0 h1 h2 h3 t=>by
  have ih:=t.eq;show(match cellsOf (ρ x)with
   |none=>none
   |some vs=>cond (Nat.beq (iF vs) size) (match jK cs0 off vs with
    |some cs=>qP ρ cs parts
    |none=>none) none)=_
  simp only[h0,h1,h2,h3,cond,ih]
variable{B:List Nat}{w0:Wd}{kl:List OA}{F:List aK}{K:KO}{ds:List Tmp}{rest:List bT}{n d:Nat}{l:List (Nat×Value)}{D:List Deferred}{pm:Option FrameMode}{ro:Option Nat}{g:Option (Tmp×Bool)}
theorem abF
 {t:TypeId} {len:Nat} {zero cs:List Value} {parts:List (Nat×Nat×Operand)} (hn:Nat.blt d n=true) (hg:bZ l g=true) (hx:Fill (ev l) zero parts cs):
 dN (R (λh=>aG P ds (⟨⟨some d,g,.wB t len zero parts⟩,[]⟩::rest) (act n l D pm ro) h K) B w0 kl F)
 (∀b,R (λh=>aG P ds rest (act n ((d,.slice (some ⟨b,0,some 0⟩) len len)::l) D pm ro) h K) B w0 (pt b (.cells cs)::kl) F):=abf hn hg hx.eq
theorem abG
 {zero cs:List Value} {parts:List (Nat×Nat×Operand)} (hn:Nat.blt d n=true) (hg:bZ l g=true) (hx:Fill (ev l) zero parts cs):
 dN (R (λh=>aG P ds (⟨⟨some d,g,.build zero parts⟩,[]⟩::rest) (act n l D pm ro) h K) B w0 kl F) (R (λh=>aG P ds rest (act n ((d,.agg ⟨cs⟩)::l) D pm ro) h K) B w0 kl F):=fq hn hg (aaN hx.eq)
variable{α:Type}
theorem aT{E:Enc α}{v:Value}{xs:List α}{Q:IH->Prop}(hf:ai E v xs∈F)(h:∀a c,v=.slice a xs.length c->R Q B w0 kl F):R Q B w0 kl F:=λw s=>by
 obtain⟨a,c,e⟩:=Rf (s.facts _ hf);exact h a c e w s
section
variable {B:List Nat} {w0:Wd} {kl:List OA} {F:List aK} {K:KO} {ds:List Tmp} {rest:List bT} {n:Nat} {l:List (Nat×Value)} {D:List Deferred} {pm:Option FrameMode} {ro:Option Nat} {t1 t2:Nat}
theorem lH{e:Bool}(h1:e=false->R (λh=>aG P ds rest (act n ((t1,.bool false)::(t2,.bool false)::l) D pm ro) h K) B w0 kl F)(h2:e=true->R (λh=>aG P ds rest (act n ((t1,.bool true)::(t2,.bool true)::l) D pm ro) h K) B w0 kl F):
 R (λh=>aG P ds rest (act n ((t1,.bool e)::(t2,.bool e)::l) D pm ro) h K) B w0 kl F:=by
 cases e
 ·exact h1 rfl
 ·exact h2 rfl
variable{p:Prop}
theorem og{_:Decidable p}(h1:¬p->R (λh=>aG P ds rest (act n ((t1,.bool false)::(t2,.bool false)::l) D pm ro) h K) B w0 kl F)(h2:p->R (λh=>aG P ds rest (act n ((t1,.bool true)::(t2,.bool true)::l) D pm ro) h K) B w0 kl F):
 R (λh=>aG P ds rest (act n ((t1,.bool (decide p))::(t2,.bool (decide p))::l) D pm ro) h K) B w0 kl F:=
 lH (λe=>h1 (mV e)) (λe=>h2 (gQ e))
theorem nu{_:Decidable p}(h1:p->R (λh=>aG P ds rest (act n ((t1,.bool false)::(t2,.bool false)::l) D pm ro) h K) B w0 kl F)(h2:¬p->R (λh=>aG P ds rest (act n ((t1,.bool true)::(t2,.bool true)::l) D pm ro) h K) B w0 kl F):
 R (λh=>aG P ds rest (act n ((t1,.bool (!decide p))::(t2,.bool (!decide p))::l) D pm ro) h K) B w0 kl F:=
 lH (λe=>h1 xF) (λe=>h2 xF)
end
section
variable {B:List Nat} {w0:Wd} {kl kl':List OA} {F:List aK} {K:KO} {ds:List Tmp} {rest:List bT} {n:Nat} {l:List (Nat×Value)} {D:List Deferred} {pm:Option FrameMode} {ro:Option Nat} {d:Nat} {g:Option (Tmp×Bool)}
variable{x:Operand}{v:Value}{cs:List Value}
theorem abH{t:TypeId}(hn:Nat.blt d n=true)(hg:bZ l g=true)(hv:ev l x=v)(hx:cellsOf v=some cs):dN (R (λh=>aG P ds (⟨⟨some d,g,.box x t⟩,[]⟩::rest) (act n l D pm ro) h K) B w0 kl F)
 (∀b,R (λh=>aG P ds rest (act n ((d,.pointer (some ⟨b,0,none⟩))::l) D pm ro) h K) B w0 (pt b (.cells cs)::kl) F):=abe hn hg (by rw[hv];exact hx)
theorem abI{y:Operand}{b o m:Nat}{vs c:List Value}(hg:bZ l g=true)(hx:ev l x=.pointer (some ⟨b,o,none⟩))(hw:ev l y=v)(hy:cellsOf v=some vs)(hm:Nat.beq (iF vs) m=true)
 (hk:ay (pt b (.cells cs)) kl kl') (hv:jK cs o vs=some c):
 dN (R (λh=>aG P ds (⟨⟨none,g,.store m x y⟩,[]⟩::rest) (act n l D pm ro) h K) B w0 kl F) (R (λh=>aG P ds rest (act n l D pm ro) h K) B w0 (pt b (.cells c)::kl') F):=abm hg hx (by rw[hw];exact hy) hm hk hv
end
theorem abJ
 {fn:Fn} {first captured:List Operand} {a b:List Value} (hn:Nat.blt d n=true) (hg:bZ l g=true) (h1:EvL (ev l) first a) (h2:EvL (ev l) captured b):
 dN (R (λh=>aG P ds (⟨⟨some d,g,.Ba fn first captured⟩,[]⟩::rest) (act n l D pm ro) h K) B w0 kl F) (R (λh=>aG P ds rest (act n ((d,.func fn ⟨a⟩ ⟨b⟩)::l) D pm ro) h K) B w0 kl F):=fq hn hg (aaO h1 h2)
theorem go{G G':Prop}(x:G')(r:dN G G':=by
 repeat (first
  |((with_reducible apply dN.trans);first
   |with_reducible exact aaP
   |with_reducible exact aaQ
   |with_reducible exact aaR
   |with_reducible exact aaS
   |with_reducible exact aaT
   |with_reducible exact aaU
   |with_reducible exact aaV
   |with_reducible exact aaW
   |with_reducible exact aaX
   |with_reducible exact aaY
   |with_reducible exact aaZ
   |with_reducible exact aa0
   |with_reducible exact aa1
   |with_reducible exact aa2
   |with_reducible exact aa3
   |with_reducible exact aa6
   |with_reducible exact aa7
   |with_reducible exact aa8
   |((with_reducible apply aa4);exact rfl)
   |((with_reducible apply aa5);exact rfl)
   |((with_reducible apply aa9);(focus exact rfl))
   |((with_reducible apply aba);(focus exact rfl))
   |((with_reducible apply abb);(focus exact rfl);(focus exact rfl))
   |((with_reducible apply abD);(focus exact rfl);(focus exact rfl);(focus ((conv=>lhs;whnf);(first|done|fail)));(focus exact rfl);(focus (((repeat (first|with_reducible exact cZ .. |with_reducible apply dA));first|done|fail);(first|done|fail)));(focus ((omega);(first|done|fail))))
   |((with_reducible apply abE);(focus exact rfl);(focus exact rfl);(focus ((conv=>lhs;whnf);(first|done|fail)));(focus exact rfl);(focus (((repeat (first|with_reducible exact cZ .. |with_reducible apply dA));first|done|fail);(first|done|fail)));(focus ((omega);(first|done|fail))))
   |((with_reducible apply Rh);(focus exact rfl);(focus exact rfl);(focus ((conv=>lhs;whnf);(first|done|fail)));(focus exact rfl);(focus (((repeat (first|with_reducible exact cZ .. |with_reducible apply dA));first|done|fail);(first|done|fail)));(focus ((omega);(first|done|fail)));(focus ((omega);(first|done|fail))))
   |((with_reducible apply Ri);(focus exact rfl);(focus exact rfl);(focus ((conv=>lhs;whnf);(first|done|fail)));(focus exact rfl);(focus (((repeat (first|with_reducible exact cZ .. |with_reducible apply dA));first|done|fail);(first|done|fail)));(focus ((omega);(first|done|fail)));(focus ((omega);(first|done|fail))))
   |((with_reducible apply fq);(focus exact rfl);(focus exact rfl);(focus ((first|((with_reducible apply Gz);(focus ((conv=>lhs;whnf);(first|done|fail))))|((with_reducible apply GA);(focus ((conv=>lhs;whnf);(first|done|fail))))|((with_reducible apply GI);(focus exact rfl))|((with_reducible apply GK);(focus exact rfl);(focus exact rfl))|((with_reducible apply GL);(focus exact rfl);(focus exact rfl))|((with_reducible apply GM);(focus exact rfl);(focus exact rfl))|((with_reducible apply GN);(focus exact rfl);(focus exact rfl))|((with_reducible apply GQ);(focus exact rfl);(focus exact rfl))|((with_reducible apply GR);(focus exact rfl);(focus exact rfl))|((with_reducible apply GH);(focus exact rfl))|((with_reducible apply GD);(focus exact rfl);(focus ((conv=>lhs;whnf);(first|done|fail))))|((with_reducible apply GG);(focus exact rfl);(focus ((conv=>lhs;whnf);(first|done|fail))))|((with_reducible apply GV);(focus exact rfl);(focus ((conv=>lhs;whnf);(first|done|fail))))|((with_reducible apply GX);(focus exact rfl))|((with_reducible apply GY);(focus exact rfl);(focus ((conv=>lhs;whnf);(first|done|fail))))|((with_reducible apply GZ);(focus exact rfl);(focus ((conv=>lhs;whnf);(first|done|fail))))|((with_reducible apply G5);(focus ((conv=>lhs;whnf);(first|done|fail))))|((with_reducible apply G6);(focus exact rfl))|((with_reducible apply G7);(focus exact rfl))|((with_reducible apply G8);(focus exact rfl))|with_reducible exact GJ|((with_reducible apply G9);(focus exact rfl);(focus exact rfl);(focus exact rfl))|((with_reducible apply Hz);(focus exact rfl);(focus exact rfl);(focus ((omega);(first|done|fail))))|((with_reducible apply D8);(focus exact rfl);(focus exact rfl);(focus ((omega);(first|done|fail)));(focus ((omega);(first|done|fail))))|((with_reducible apply He);(focus exact rfl);(focus exact rfl);(focus ((omega);(first|done|fail)));(focus ((omega);(first|done|fail))))|((with_reducible apply BJ);(focus exact rfl);(focus exact rfl);(focus ((omega);(first|done|fail)));(focus ((omega);(first|done|fail))))|((with_reducible apply GU);(focus exact rfl);(focus exact rfl);(focus ((omega);(first|done|fail)));(focus ((omega);(first|done|fail))))|((with_reducible apply Hq);(focus exact rfl);(focus exact rfl);(focus ((first|assumption|kernel_rfl);(first|done|fail))))|((with_reducible apply Hr);(focus exact rfl);(focus exact rfl);(focus ((first|assumption|kernel_rfl);(first|done|fail))))|((with_reducible apply Ht);(focus exact rfl);(focus exact rfl))|((with_reducible apply Hu);(focus exact rfl);(focus exact rfl))|((with_reducible apply Hw);(focus exact rfl);(focus exact rfl);(focus ((omega);(first|done|fail)));(focus ((omega);(first|done|fail)))));(first|done|fail))))
   |((with_reducible apply abJ);(focus exact rfl);(focus exact rfl);(focus (repeat (first|with_reducible exact EvL.nil|((with_reducible apply EvL.cons);(conv=>lhs;whnf)))));(focus (repeat (first|with_reducible exact EvL.nil|((with_reducible apply EvL.cons);(conv=>lhs;whnf))))))
   |((with_reducible apply abF);(focus exact rfl);(focus exact rfl);(focus (repeat (first|with_reducible exact Fill.nil|((with_reducible apply Fill.cons);(conv=>lhs;whnf);(conv=>lhs;whnf);(focus exact rfl);(conv=>lhs;whnf))))))
   |((with_reducible apply abG);(focus exact rfl);(focus exact rfl);(focus (repeat (first|with_reducible exact Fill.nil|((with_reducible apply Fill.cons);(conv=>lhs;whnf);(conv=>lhs;whnf);(focus exact rfl);(conv=>lhs;whnf))))))
   |((with_reducible apply abH);(focus exact rfl);(focus exact rfl);(focus ((conv=>lhs;whnf);(first|done|fail)));(focus ((conv=>lhs;whnf);(first|done|fail))))
   |((with_reducible apply abd);(focus exact rfl);(focus exact rfl))
   |((with_reducible apply abh);(focus exact rfl);(focus exact rfl);(focus exact rfl);(focus ((repeat (first|with_reducible exact ay.here|with_reducible apply ay.there|with_reducible apply ay.app));(first|done|fail)));(focus ((conv=>lhs;whnf);(first|done|fail))))
   |((with_reducible apply abj);(focus exact rfl);(focus exact rfl);(focus exact rfl);(focus ((repeat (first|with_reducible exact ay.here|with_reducible apply ay.there|with_reducible apply ay.app));(first|done|fail)));(focus ((conv=>lhs;whnf);(first|done|fail))))
   |((with_reducible apply abk);(focus exact rfl);(focus exact rfl);(focus exact rfl);(focus (((repeat (first|with_reducible exact cZ .. |with_reducible apply dA));first|done|fail);(first|done|fail)));(focus ((conv=>lhs;whnf);(first|done|fail))))
   |((with_reducible apply Hl);(focus exact rfl);(focus exact rfl);(focus exact rfl);(focus (((repeat (first|with_reducible exact cZ .. |with_reducible apply dA));first|done|fail);(first|done|fail)));(focus ((conv=>lhs;whnf);(first|done|fail))))
   |((with_reducible apply abl);(focus exact rfl);(focus exact rfl);(focus exact rfl);(focus (((repeat (first|with_reducible exact cZ .. |with_reducible apply dA));first|done|fail);(first|done|fail)));(focus ((conv=>lhs;whnf);(first|done|fail))))
   |((with_reducible apply Re);(focus exact rfl);(focus exact rfl);(focus exact rfl);(focus (((repeat (first|with_reducible exact cZ .. |with_reducible apply dA));first|done|fail);(first|done|fail)));(focus ((conv=>lhs;whnf);(first|done|fail))))
   |((with_reducible apply abI);(focus exact rfl);(focus exact rfl);(focus ((conv=>lhs;whnf);(first|done|fail)));(focus ((conv=>lhs;whnf);(first|done|fail)));(focus exact rfl);(focus ((repeat (first|with_reducible exact ay.here|with_reducible apply ay.there|with_reducible apply ay.app));(first|done|fail)));(focus ((conv=>lhs;whnf);(first|done|fail))))
   |((with_reducible apply abq);(focus exact rfl);(focus exact rfl);(focus ((conv=>lhs;whnf);(first|done|fail)));(focus (((repeat (first|with_reducible exact cZ .. |with_reducible apply dA));first|done|fail);(first|done|fail))))
   |((with_reducible apply abr);(focus exact rfl);(focus exact rfl);(focus ((conv=>lhs;whnf);(first|done|fail)));(focus ((repeat (first|with_reducible exact ay.here|with_reducible apply ay.there|with_reducible apply ay.app));(first|done|fail))))
   |((with_reducible apply abz (re:=_::_));(focus exact rfl);(focus exact rfl);(focus ((first|((with_reducible apply Gz);(focus ((conv=>lhs;whnf);(first|done|fail))))|((with_reducible apply GA);(focus ((conv=>lhs;whnf);(first|done|fail))))|((with_reducible apply GI);(focus exact rfl))|((with_reducible apply GK);(focus exact rfl);(focus exact rfl))|((with_reducible apply GL);(focus exact rfl);(focus exact rfl))|((with_reducible apply GM);(focus exact rfl);(focus exact rfl))|((with_reducible apply GN);(focus exact rfl);(focus exact rfl))|((with_reducible apply GQ);(focus exact rfl);(focus exact rfl))|((with_reducible apply GR);(focus exact rfl);(focus exact rfl))|((with_reducible apply GH);(focus exact rfl))|((with_reducible apply GD);(focus exact rfl);(focus ((conv=>lhs;whnf);(first|done|fail))))|((with_reducible apply GG);(focus exact rfl);(focus ((conv=>lhs;whnf);(first|done|fail))))|((with_reducible apply GV);(focus exact rfl);(focus ((conv=>lhs;whnf);(first|done|fail))))|((with_reducible apply GX);(focus exact rfl))|((with_reducible apply GY);(focus exact rfl);(focus ((conv=>lhs;whnf);(first|done|fail))))|((with_reducible apply GZ);(focus exact rfl);(focus ((conv=>lhs;whnf);(first|done|fail))))|((with_reducible apply G5);(focus ((conv=>lhs;whnf);(first|done|fail))))|((with_reducible apply G6);(focus exact rfl))|((with_reducible apply G7);(focus exact rfl))|((with_reducible apply G8);(focus exact rfl))|with_reducible exact GJ|((with_reducible apply G9);(focus exact rfl);(focus exact rfl);(focus exact rfl))|((with_reducible apply Hz);(focus exact rfl);(focus exact rfl);(focus ((omega);(first|done|fail))))|((with_reducible apply D8);(focus exact rfl);(focus exact rfl);(focus ((omega);(first|done|fail)));(focus ((omega);(first|done|fail))))|((with_reducible apply He);(focus exact rfl);(focus exact rfl);(focus ((omega);(first|done|fail)));(focus ((omega);(first|done|fail))))|((with_reducible apply BJ);(focus exact rfl);(focus exact rfl);(focus ((omega);(first|done|fail)));(focus ((omega);(first|done|fail))))|((with_reducible apply GU);(focus exact rfl);(focus exact rfl);(focus ((omega);(first|done|fail)));(focus ((omega);(first|done|fail))))|((with_reducible apply Hq);(focus exact rfl);(focus exact rfl);(focus ((first|assumption|kernel_rfl);(first|done|fail))))|((with_reducible apply Hr);(focus exact rfl);(focus exact rfl);(focus ((first|assumption|kernel_rfl);(first|done|fail))))|((with_reducible apply Ht);(focus exact rfl);(focus exact rfl))|((with_reducible apply Hu);(focus exact rfl);(focus exact rfl))|((with_reducible apply Hw);(focus exact rfl);(focus exact rfl);(focus ((omega);(first|done|fail)));(focus ((omega);(first|done|fail)))));(first|done|fail)));(focus ((repeat (first|exact BL|refine BM rfl xb wl rfl ?_|refine Ea rfl (by(repeat (first|with_reducible exact cZ .. |with_reducible apply dA));first|done|fail) wl rfl ?_|refine Eb rfl (by(repeat (first|with_reducible exact cZ .. |with_reducible apply dA));first|done|fail) wl rfl ?_|refine Ec rfl xb wl rfl ?_|refine Ed rfl (by(repeat (first|with_reducible exact cZ .. |with_reducible apply dA));first|done|fail) wl rfl ?_|refine Ee rfl (by(repeat (first|with_reducible exact cZ .. |with_reducible apply dA));first|done|fail) wl rfl ?_));(first|done|fail))))
   |((with_reducible apply aby (re:=_::_));(focus exact rfl);(focus exact rfl);(focus ((conv=>lhs;whnf);(first|done|fail)));(focus ((conv=>lhs;whnf);(first|done|fail)));(focus exact rfl);(focus ((repeat (first|with_reducible exact ay.here|with_reducible apply ay.there|with_reducible apply ay.app));(first|done|fail)));(focus ((conv=>lhs;whnf);(first|done|fail)));(focus ((repeat (first|exact BL|refine BM rfl xb wl rfl ?_|refine Ea rfl (by(repeat (first|with_reducible exact cZ .. |with_reducible apply dA));first|done|fail) wl rfl ?_|refine Eb rfl (by(repeat (first|with_reducible exact cZ .. |with_reducible apply dA));first|done|fail) wl rfl ?_|refine Ec rfl xb wl rfl ?_|refine Ed rfl (by(repeat (first|with_reducible exact cZ .. |with_reducible apply dA));first|done|fail) wl rfl ?_|refine Ee rfl (by(repeat (first|with_reducible exact cZ .. |with_reducible apply dA));first|done|fail) wl rfl ?_));(first|done|fail))))
   |fail)
  |((with_reducible apply dN.all);intro _)
  |with_reducible apply dN.imp)
 with_reducible exact dN.refl _):G:=r.h x
theorem oh{c:dB}{a:aV}(r:R (λh=>EV P c a h (yx P (.loop c) K)) B w0 kl F):R (λh=>EV P (.loop c) a h K) B w0 kl F:=λw s=>
 .loop _ (r w s) (λ_ _ hm=>hm) (λo a' h' hm hn=>by
  exact pP)
theorem lG.sub{F0:List α}:∀{F:List α},lG F0 F->Sub F0 F:=λ{F} h=>by
 have:∀k:List α,(∀x∈k,x∈F)->Sub k F:=by
  intro k;induction k with
  |nil=>intro _;exact .nil
  |cons a k ih=>intro hk;exact .cons (hk a (cZ ..)) (ih λx hx=>hk x (dA _ hx))
 exact this F0 h.mem
inductive bR{α:Type}:List α->List α->List α->Prop
 |nil {l:List α}:bR [] l l
 |cons {a:α} {k l m:List α} (h:bR k l m):bR (a::k) l (a::m)
 |self {k:List α}:bR k [] k
 |app {k l:List α}:bR k l (k++l)
theorem bR.eq:∀{k l m:List α},bR k l m->k++l=m
 |_,_,_,.nil=>rfl
 |_,_,_,.self=>iI _
 |_,_,_,.app=>rfl
 |_,_,_,.cons h=>by rw[fM,h.eq]
section
variable {B:List Nat} {w0:Wd} {kl kl' bG:List OA} {F:List aK} {K:KO} {ds:List Tmp} {rest:List bT} {n:Nat} {l:List (Nat×Value)} {D:List Deferred} {pm:Option FrameMode} {ro:Option Nat} {d:Nat} {g:Option (Tmp×Bool)}
variable{Y:Type}{vs:List Value}
theorem ax{f:Operand}{xs:List Operand}{re:List ik}{fn:Fn}{first captured as:List Value}{k1:List OA}{F1:List aK}{val:Y->Value}{k1':Y->List OA}{fs:Y->List aK}{pr:Y->Prop}{eU:Y->List OA}{F2:Y->List aK}
 (hc:aU P fn as captured k1 F1 val k1' fs pr) (hn:Nat.blt d n=true:=by rfl) (hg:bZ l g=true:=by rfl) (hf:ev l f=.func fn ⟨first⟩ ⟨captured⟩:=by rfl) (hx:EvL (ev l) xs vs:=by repeat (first|with_reducible exact EvL.nil|((with_reducible apply EvL.cons);(conv=>lhs;whnf)))) (ha:first++vs=as:=by rfl)
 (hk:aI k1 kl bG:=by exact oK) (hF:Sub F1 F:=by exact oJ)
 (hak:∀y,bR (k1' y) bG (eU y):=by intro y;repeat (first|exact bR.nil|apply bR.cons|exact bR.self|exact bR.app)) (BP:∀y,bR (fs y) F (F2 y):=by intro y;repeat (first|exact bR.nil|apply bR.cons|exact bR.self|exact bR.app))
 (hs:∀y,pr y->Same P re (ev ((d,val y)::l)) ((d,val y)::l) B w0 (eU y) (F2 y):=by intro _ _;repeat (first|exact BL|refine BM rfl xb wl rfl ?_|refine Ea rfl (by(repeat (first|with_reducible exact cZ .. |with_reducible apply dA));first|done|fail) wl rfl ?_|refine Eb rfl (by(repeat (first|with_reducible exact cZ .. |with_reducible apply dA));first|done|fail) wl rfl ?_|refine Ec rfl xb wl rfl ?_|refine Ed rfl (by(repeat (first|with_reducible exact cZ .. |with_reducible apply dA));first|done|fail) wl rfl ?_|refine Ee rfl (by(repeat (first|with_reducible exact cZ .. |with_reducible apply dA));first|done|fail) wl rfl ?_|refine Rm CM rfl ?_))
 (next:∀y,pr y->R (λh=>aG P ds rest (act n ((d,val y)::l) D pm ro) h K) B w0 (eU y) (F2 y)):
 R (λh=>aG P ds (⟨⟨some d,g,.call f xs⟩,re⟩::rest) (act n l D pm ro) h K) B w0 kl F:=
 abA hc hn hg hf hx ha hk hF (λy hy=>by rw[(hak y).eq,(BP y).eq];exact hs y hy) (λy hy=>by rw[(hak y).eq,(BP y).eq];exact next y hy)
abbrev dL(P:Program)(f:FuncId)(args:List Value)(F:List aK)(v:Value):Prop:=aU P (.func f) args [] [] F (λ_:Unit=>v) (λ_=>[]) (λ_=>[]) (λ_=>True)
abbrev Ro{α:Type}(P:Program)(f:FuncId)(args:List Value)(F:List aK)(E:Enc α)(ys:List α):Prop:=aU P (.func f) args [] [] F (λv:Value=>v) (λ_=>[]) (λv=>[ai E v ys]) (λ_=>True)
variable{l0:List (Nat×Value)}
theorem aH{f:FuncId}{args cap:List Value}{kl:List OA}{F:List aK}{val:Y->Value}{kl':Y->List OA}{fs:Y->List aK}{pr:Y->Prop}{c:dB}{m:Nat}(cf:gU)(hF:(pu P qi pz).F f=some cf)
 (hb:∀B w0,R (λh=>EV P c (act m l0 [] none none) h (BF cf (Left B w0 val kl' fs pr))) B w0 kl F)
 (h1:cf.body=c:=by conv=>lhs;(reduce;(try simp only[Int.reduceOfNat,Int.reduceNegSucc]))) (h2:qR cf.ntmps (iF (args++cap))=m:=by conv=>lhs;whnf) (h3:pK 0 (args++cap) []=l0:=by dsimp only[pK,Nat.reduceAdd,List.append_nil,List.cons_append,List.nil_append]):aU P (.func f) args cap kl F val kl' fs pr:=
 abw cf hF (by rw[h1,h2,h3];exact hb)
theorem bq{α:Type}(E:Enc α){x i:Operand}{v:Value}{xs:List α}{size:Nat}{k:Nat}{kk:IntKind}{F2:α->E.Y->List aK}(hn:Nat.blt d n=true:=by rfl)(hg:bZ l g=true:=by rfl)(hx:ev l x=v:=by conv=>lhs;whnf)(hi:ev l i=.int kk (k:Int):=by rfl)
 (hf:ai E v xs∈F:=by exact vF) (hs:E.n=size:=by rfl) (h1:k<xs.length:=by omega)
 (ha:∀z y,bR (E.fs z y) F (F2 z y):=by intro z y;repeat (first|exact bR.nil|apply bR.cons|exact bR.self|exact bR.app))
 (next:∀b o z y,xs[k]? =some z->R (λh=>aG P ds rest (act n ((d,.pointer (some ⟨b,o,none⟩))::l) D pm ro) h K) B w0 kl (fA b o (E.pat z y)::F2 z y)):
 R (λh=>aG P ds (⟨⟨some d,g,.nG size x i⟩,[]⟩::rest) (act n l D pm ro) h K) B w0 kl F:=
 (LY hn hg hx hi hf hs vj vj).h λb o z y hz=>by rw[(ha z y).eq];exact next b o z y (by simpa using hz)
theorem ah{o:Out}{cf:gU}{val:Y->Value}{k1:Y->List OA}{fs:Y->List aK}{pr:Y->Prop}(y:Y)
 (hr:RS l kl cf.results vs:=by exact BN) (hv:uA vs=val y:=by rfl) (hp:pr y)
 (hk:aI (k1 y) kl bG:=by exact oK) (hF:Sub (fs y) F:=by exact oJ)
 (ho:o=.normal\/o=.ret:=by first|exact .inl rfl|exact .inr rfl):R (λh=>BF cf (Left B w0 val k1 fs pr) o (act n l [] none ro) h) B w0 kl F:=
 Rn y hr hv hp hk hF ho
theorem bi{A:OA}{fs F2:List aK}{Q:IH->Prop}(hA:uz A fs)(hk:ay A kl kl':=by exact iw)(ha:bR fs F F2:=by repeat (first|exact bR.nil|apply bR.cons|exact bR.self|exact bR.app))(h:R Q B w0 kl' F2):R Q B w0 kl F:=
 abt hA hk (by rw[ha.eq];exact h)
variable{X:Type}
theorem aW{c:dB}{L2:X->List (Nat×Value)}{Ef:X->List OA}{Eg:X->List aK}(m:X->Nat)(L:X->List (Nat×Value))(KL:X->List OA)(FF:X->List aK)(inv:X->Prop)(x0:X)(hi:inv x0)
 (h0:ru l (L x0) l0:=by repeat (first|exact ru.nil|(apply ru.drop;(focus exact rfl))|(apply ru.keep;(focus exact rfl)))) (hl:sub (L x0++l0) l:=by repeat (first|exact trivial|refine⟨rfl,?_⟩))
 (hk:aI (KL x0) kl bG:=by exact oK) (hF:Sub (FF x0) F:=by exact oJ)
 (hak:∀x,bR (KL x) bG (Ef x):=by intro y;repeat (first|exact bR.nil|apply bR.cons|exact bR.self|exact bR.app)) (BP:∀x,bR (FF x) F (Eg x):=by intro y;repeat (first|exact bR.nil|apply bR.cons|exact bR.self|exact bR.app))
 (hal:∀x,bR (L x) l0 (L2 x):=by intro y;repeat (first|exact bR.nil|apply bR.cons|exact bR.self|exact bR.app))
 (body:∀x,inv x->R (λh=>EV P c (act n (L2 x) D pm ro) h (wU (LI n D pm ro B w0 m L KL FF inv l0 bG F) (m x) K)) B w0 (Ef x) (Eg x)):
 R (λh=>EV P (.loop c) (act n l D pm ro) h K) B w0 kl F:=
 abB m L KL FF inv x0 hi l0 hl hk hF λx hx=>by rw[(hak x).eq,(BP x).eq,(hal x).eq];exact body x hx
theorem aM{m:X->Nat}{L:X->List (Nat×Value)}{KL:X->List OA}{FF:X->List aK}{inv:X->Prop}{Eh eU:List OA}{F0:List aK}{m0:Nat}(x:X)(hm:m x<m0)(hi:inv x)
 (hl:sub (L x++l0) l:=by repeat (first|exact trivial|refine⟨rfl,?_⟩)) (ha:bR (KL x) bG Eh:=by repeat (first|exact bR.nil|apply bR.cons|exact bR.self|exact bR.app))
 (hk:aI Eh kl eU:=by exact oK) (hF:Sub (FF x) F:=by exact oJ)
 (zU:lG F0 F:=by repeat (first|exact lG.here|apply lG.cons|apply lG.app)):
 R (λh=>wU (LI n D pm ro B w0 m L KL FF inv l0 bG F0) m0 K .normal (act n l D pm ro) h) B w0 kl F:=
 abC x hm hi hl (by rw[ha.eq];exact hk) hF zU
end
end Go.Ideal
namespace Go.Ideal
class BQ (e:Bool) (f t:outParam Prop):Prop where
 no:e=false->f
 yes:e=true->t
instance (priority:=low) ai7 {e:Bool}:BQ e (e=false) (e=true):=⟨id,id⟩
instance ai8 {p:Prop} {_:Decidable p}:BQ (decide p) (¬p) p:=⟨mV,gQ⟩
instance ai9 {p:Prop} {_:Decidable p}:BQ (!decide p) p (¬p):=⟨λe=>by simpa using e,λe=>by simpa using e⟩
section
variable {P:Program}
variable {B:List Nat} {w0:Wd} {kl:List OA} {F:List aK} {K:KO} {ds:List Tmp} {rest:List bT} {n:Nat} {l:List (Nat×Value)} {D:List Deferred} {pm:Option FrameMode} {ro:Option Nat} {t1 t2:Nat}
theorem gG{e:Bool}{f t:Prop}[BQ e f t](h1:f->R (λh=>aG P ds rest (act n ((t1,.bool false)::(t2,.bool false)::l) D pm ro) h K) B w0 kl F)(h2:t->R (λh=>aG P ds rest (act n ((t1,.bool true)::(t2,.bool true)::l) D pm ro) h K) B w0 kl F):
 R (λh=>aG P ds rest (act n ((t1,.bool e)::(t2,.bool e)::l) D pm ro) h K) B w0 kl F:=
 lH (λx=>h1 (BQ.no x)) (λx=>h2 (BQ.yes x))
end
section
instance aja {n:Nat}:OfNat Operand n:=⟨.tmp n⟩
abbrev kI(n:Int):Operand:=.const (.int .i64 n)
abbrev vI:Value:=.int .i64 0
abbrev vS:Value:=.slice none 0 0
abbrev vE:Value:=.string ⟨⟨[]⟩⟩
abbrev kC(f:Nat)(l:List Operand):aB:=.call (.func f) l
abbrev kS(n:Nat)(e:aB):bT:=⟨⟨some n,none,e⟩,[]⟩
abbrev kN(e:aB):bT:=⟨⟨none,none,e⟩,[]⟩
abbrev kM(n:Nat)(x:Operand):bT:=kS n (.mv x)
abbrev kO(l:List bT):dB:=.ops (l.filterMap λx=>x.s.dst) l
end
end Go.Ideal
namespace Go.Ideal
theorem abK{P:Program}{f:FuncId}{v:Value}(hs:∀h,CALL P ⟨.func f,[],[],none⟩ h (λr pm h'=>pm=none/\r=.ok v/\h'=h)):dL P f [] [] v:=λB w s=>
 .qY _ (hs w.h) (by rintro r pm h' ⟨rfl,rfl,rfl⟩;exact⟨rfl,w,(),rfl,s,rfl,trivial⟩)
noncomputable def HV(L:Lay):Wd:=⟨jZ L,λi=>i<(jZ L).next,λ_ h=>h⟩
end Go.Ideal
namespace Go.Ideal
open Go.ChangeShapes Go.WideShapes Go.ChangeAt Go.RowKit
variable {P:Program}
def BS{α:Type}(P:Program)(t:TypeId)(E:Enc α):Prop:=∀(w:Wd) (H:Type) (d:DataW H) (cs:List Value),(∀i,i<w.h.next->w.z i)->iq P w.h t cs d->∃a y,cs=E.pat a y/\∀f∈E.fs a y,f.p w
theorem Ma{α:Type}{p:Nat->α->Prop}:∀n,(∀k,k<n->∃a,p k a)->∃l:List α,l.length=n/\∀(k:Nat) a,l[k]? =some a->p k a
 |0,_=>⟨[],rfl,λk a h=>by cases h⟩
 |n+1,h=>by
  obtain⟨l,h1,h2⟩:=Ma n (λk hk=>h k vj);obtain⟨a,ha⟩:=h n vj;refine⟨l++[a],by simp[h1],λk b hb=>?_⟩;by_cases hk:k<l.length
  ·rw[qL hk]at hb;exact h2 k b hb
  ·rw[qa vj]at hb;have hk0:k=n:=by have:=(bC.1 hb).1;simp at this;omega
   subst hk0;rw[h1]at hb;simp at hb;subst hb;exact ha
def Rp{α β:Type}(E1:Enc α)(E2:Enc β):Enc (α×β):=⟨E1.n+E2.n,E1.Y×E2.Y,λa y=>E1.pat a.1 y.1++E2.pat a.2 y.2,λa y=>E1.fs a.1 y.1++E2.fs a.2 y.2,λa y=>by rw[iE,E1.len,E2.len]⟩
def Rq:Enc Unit:=⟨0,Unit,λ_ _=>[],λ_ _=>[],λ_ _=>rfl⟩
inductive BU(P:Program):{α:Type}->List Field->Enc α->Prop
 |nil:BU P [] Rq
 |cons {α β:Type} {f:Field} {fs:List Field} {E1:Enc α} {E2:Enc β} (h:BS P f.type E1) (hn:P.cellsOf f.type=E1.n) (t:BU P fs E2):BU P (f::fs) (Rp E1 E2)
theorem BU.HY{w:Wd}{H:Type}(hz:∀i,i<w.h.next->w.z i):∀{α:Type} {fs:List Field} {E:Enc α},BU P fs E->∀(o0:Nat) (cs:List Value) (ds:List (DataW H)),cs.length=(fs.map λf=>P.cellsOf f.type).sum->ds.length=fs.length->
 fs.map (·.offset)=sums o0 (fs.map λf=>P.cellsOf f.type)->(∀(j:Nat) f d,fs[j]? =some f->ds[j]? =some d->iq P w.h f.type ((cs.drop (f.offset - o0)).take (P.cellsOf f.type)) d)->∃a y,cs=E.pat a y/\∀f∈E.fs a y,f.p w
 |_,_,_,.nil,o0,cs,ds,h1,h2,h3,h4=>⟨(),(),jw.1 ya,λf hf=>by cases hf⟩
 |_,_,_,.cons (f:=f) (fs:=fs) (E1:=E1) (E2:=E2) h hn t,o0,cs,ds,h1,h2,h3,h4=>by
  match ds,h2 with
  |d::ds,h2=>
   simp only[ic,List.sum_cons,sums,AZ]at h1 h3;obtain⟨ho,h3⟩:=h3;have r0:=h4 0 f d rfl rfl;rw[ho,ww,CS]at r0;obtain⟨a,y,q1,q2⟩:=h w H d _ hz r0;obtain⟨b,z,u1,u2⟩:=BU.HY hz t (o0+P.cellsOf f.type) (cs.drop (P.cellsOf f.type)) ds xp zj h3 (λj g e hg he=>by
    exact dr)
   refine⟨(a,b),(y,z),?_,?_⟩
   ·show cs=E1.pat a y++E2.pat b z;rw[<- q1,<- u1,uU]
   ·exact tB
theorem BS.conv{α β:Type}{t:TypeId}{E:Enc α}{E':Enc β}(h:BS P t E)(hc:∀a y,∃b z,E.pat a y=E'.pat b z/\E.fs a y=E'.fs b z):BS P t E':=λw H d cs hz r=>by
 obtain⟨a,y,q1,q2⟩:=h w H d cs hz r;obtain⟨b,z,e1,e2⟩:=hc a y;exact⟨b,z,by rw[q1,e1],λf hf=>q2 f (by rw[e2];exact hf)⟩
section
variable {H:Type} {enc:TypeId×Value->H} {W:World} {K:TypeId->Prop}
def yC(P:Program)(w:Wd)(t:TypeId)(v:Value){H:Type}(d:DataW H):Prop:=∃cs,iq P w.h t cs d/\((jL P t=true/\v=.agg ⟨cs⟩)\/(jL P t=false/\cs=[v]))
variable{α:Type}{w:Wd}{t:TypeId}{v:Value}{d:DataW H}
theorem yC.agg{E:Enc α}(h:yC P w t v d)(hz:∀i,i<w.h.next->w.z i)(ha:jL P t=true)(hr:BS P t E):∃a y,v=.agg ⟨E.pat a y⟩/\∀f∈E.fs a y,f.p w:=by
 exact oa
theorem yC.one{E:Enc α}(h:yC P w t v d)(hz:∀i,i<w.h.next->w.z i)(ha:jL P t=false)(hr:BS P t E):∃a y,E.pat a y=[v]/\∀f∈E.fs a y,f.p w:=by
 exact nv
variable{L:Lay}
theorem abL{v0:Value}(hw:w.h=jZ L)(r:yB P (jZ L) t v d)(hv:VR (jO L) v v0)(hok:Value.okWide P W .any 0 t v0):yC P w t v d:=by
 obtain⟨cs,r1,h2,h3⟩:=r;refine⟨cs,by rw[hw];exact r1,?_⟩;cases ha:jL P t with
 |true=>
  left;refine⟨rfl,?_⟩;rcases h3 with e|e
  ·subst e;have hagg:∃c,v0=.agg c:=by
    unfold jL at ha;unfold Value.okWide at hok;split at ha
    ·rename_i fs hu;rw[hu]at hok;obtain⟨c,e,_⟩:=hok;exact⟨c,e⟩
    ·rename_i n e hu;rw[hu]at hok;obtain⟨c,e,_⟩:=hok;exact⟨c,e⟩
    ·cases ha
   obtain⟨c,rfl⟩:=hagg
   exfalso
   cases hv<;>simp[cellV]at h2
  ·exact e
 |false=>
  right;refine⟨rfl,?_⟩;rcases h3 with e|e
  ·exact e
  ·subst e
   exfalso
   cases hv with
   |agg hc hl=>
    cases hu:P.underlying t with
    |none=>simp[Value.okWide,Cell.okWide,Cell.ok,hu]at hok
    |some d=>cases d<;>simp[Value.okWide,Cell.okWide,Cell.ok,jL,hu]at hok ha
theorem abM{ts:List TypeId}{vs' vs:List Value}(hv:aZ (jO L) vs' vs):∀(j:Nat) v',vs'[j]? =some v'->∃v,vs[j]? =some v/\VR (jO L) v' v:=by
 intro j;induction j generalizing vs' vs with
 |zero=>
  intro v' h;cases hv with
  |nil=>cases h
  |cons h1 h2=>cases h;exact⟨_,rfl,h1⟩
 |succ j ih=>
  intro v' h;cases hv with
  |nil=>cases h
  |cons h1 h2=>exact ih h2 v' h
theorem Rs{a:Nat}{b:Nat->Bool}{c:Bool}:∀{ts:List TypeId} {vs:List Value} {ds:List (DataW H)} {ps:List MemPlace},DataW.TrodAll enc P W a b c ts vs ds ps->vs.length=ts.length/\ds.length=ts.length
 |[],[],[],_,_=>⟨rfl,rfl⟩
 |_::_,_::_,_::_,_,⟨_,_,_,h,_⟩=>by
  have:=Rs h;simp[this.1,this.2]
theorem aki{l:List α}(h:l.length=4):∃a b c d,l=[a,b,c,d]:=by
 match l,h with
 |[a,b,c,d],_=>exact⟨a,b,c,d,rfl⟩
theorem abN(zN:P.follows .mixedOrders=true)(hgl:P.globals.size=0){f:FuncId}(fn:Func)(hfn:P.funcs[f]? =some fn)(hbody:fn.body.isNone=false)(hname:(fn.name== "runtime.NumGoroutine")=false)
 (hK:∀t,K t->PlainT P K t) {ts:List TypeId} {vs:List Value} {ds:List (DataW H)} {ps:List MemPlace} (hT:∀t∈ts,K t) (hok:∀(j:Nat) t v,ts[j]? =some t->vs[j]? =some v->Value.okWide P W .any 0 t v)
 (hA:DataW.TrodAll enc P W 0 (λ_=>true) true ts vs ds ps)
 (abO:∀(w:Wd) (vs':List Value),(∀i,i<w.h.next->w.z i)->vs'.length=vs.length->(∀(j:Nat) t v d,ts[j]? =some t->vs'[j]? =some v->ds[j]? =some d->yC P w t v d)->∃F,(∀f∈F,f.p w)/\dL P f vs' F (.bool true)):
 Calls P f ⟨vs⟩ W (λe w'=>e=.returned (.bool true)/\Below W.heap.size W w'):=by
 obtain⟨M,vs',h1,h2,h3⟩:=Q8 hK hT hok hA [];rw[dX]at h1 h2;refine aaA zN hgl fn hfn hbody hname (L:=M) (args:=vs') (λi g cs hi=>h3 i g cs (bQ _) (by simpa using hi)|>λq=>by simpa using q) h1 rfl ?_;have hlen:vs'.length=vs.length:=by
  have:∀{a b:List Value},aZ (jO M) a b->a.length=b.length:=by
   intro a;induction a with
   |nil=>intro b h;cases h;rfl
   |cons x a ih=>intro b h;cases h with|cons q r=>simp[ih r]
  exact this h1
 obtain⟨F,hF,hfn'⟩:=abO (HV M) vs' (λi hi=>hi) hlen (λj t v d ht hv hd=>by
  obtain⟨v0,e,qW⟩:=abM (ts:=ts) h1 j v hv;exact abL rfl (h2 j t v d ht hv hd) qW (hok j t v0 ht e))
 have st:St [] (HV M) [] F (HV M):=⟨⟨bV _,λ_ _ _=>rfl,λ_ _=>rfl⟩,Wd.Le.refl _,λi _ hz=>.inl hz,⟨[],rfl,wy,λi hi=>by cases hi⟩,hF⟩
 refine .qY _ (hfn' [] (HV M) st) ?_;rintro r pm h' ⟨rfl,w',y,rfl,s,rfl,_⟩;exact⟨rfl,rfl,⟨s.agree.next,λi hi=>s.agree.get i hi vm,λhl=>s.agree.low hl vm⟩⟩
end
