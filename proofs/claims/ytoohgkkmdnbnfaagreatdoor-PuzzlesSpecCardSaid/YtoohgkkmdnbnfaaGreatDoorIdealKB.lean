/-
  The ideal machine, 53: the road through what needs no thought; lists put in order.
-/
import Derived.Test.YtoohgkkmdnbnfaaGreatDoorIdealJB
import Derived.Test.YtoohgkkmdnbnfaaGreatDoorIdealIB
set_option linter.all false
namespace Go.Ideal
theorem mQ{p:Prop}(h:p:=by repeat (first|exact Sub.nil|(apply Sub.cons;(focus ((repeat (first|with_reducible exact dx .. |with_reducible apply dA));first|done|fail)))|exact kE.sub (by repeat (first|with_reducible exact kE.here|with_reducible apply kE.cons|with_reducible apply kE.app)))):p:=h
theorem nD{p:Prop}(h:p:=by repeat (first|exact aH.nil|(apply aH.cons;(focus (repeat (first|with_reducible exact ay.here|with_reducible apply ay.there|with_reducible apply ay.app))))|with_reducible exact aH.all _|with_reducible exact aH.self _ _|with_reducible apply aH.there)):p:=h
theorem gu{p:Prop}(h:p:=by repeat (first|with_reducible exact ay.here|with_reducible apply ay.there|with_reducible apply ay.app)):p:=h
theorem Ai{p:Prop}(h:p:=by repeat (first|exact RS.nil|(apply RS.tmp;(conv=>lhs;whnf))|(apply RS.cell1;(focus exact rfl);(focus (repeat (first|with_reducible exact ay.here|with_reducible apply ay.there|with_reducible apply ay.app)));(conv=>lhs;whnf))|(apply RS.oG;(focus exact rfl);(focus (repeat (first|with_reducible exact ay.here|with_reducible apply ay.there|with_reducible apply ay.app)));(conv=>lhs;whnf)))):p:=h
theorem qO{p:Prop}(h:p:=by(repeat (first|with_reducible exact dx .. |with_reducible apply dA));first|done|fail):p:=h
variable {P:Program}
section
variable {B:List Nat} {w0:Wd} {kl:List OA} {F:List aJ} {K:KO} {ds:List Tmp} {rest:List bO} {n:Nat} {l:List (Nat×Value)} {D:List Deferred} {pm:Option FrameMode} {ro:Option Nat} {d:Nat} {g:Option (Tmp×Bool)}
theorem YQ{x i:Operand}{v:Value}{xs:List Int}{k:Nat}{kk:IntKind}(hn:Nat.blt d n=true)(hg:bS l g=true)(hx:ev l x=v)(hi:ev l i=.int kk (k:Int))(hf:ah ae v xs∈F)(h1:k<xs.length):
 dB (R (λh=>aD P ds (⟨⟨some d,g,.kV 1 x i⟩,[]⟩::rest) (act n l D pm ro) h K) B w0 kl F)
  (∀b o z,xs[k]? =some z->R (λh=>aD P ds rest (act n ((d,.pointer (some ⟨b,o,none⟩))::l) D pm ro) h K) B w0 kl (gH b o [.int .i64 z]::F)):=
 ⟨λr=>(O0 hn hg hx hi hf (by omega) (by omega)).h λb o z hz=>r b o z (by simpa using hz)⟩
theorem YR{x i:Operand}{v:Value}{xs:List Bool}{k:Nat}{kk:IntKind}(hn:Nat.blt d n=true)(hg:bS l g=true)(hx:ev l x=v)(hi:ev l i=.int kk (k:Int))(hf:ah OX v xs∈F)(h1:k<xs.length):
 dB (R (λh=>aD P ds (⟨⟨some d,g,.kV 1 x i⟩,[]⟩::rest) (act n l D pm ro) h K) B w0 kl F)
  (∀b o z,xs[k]? =some z->R (λh=>aD P ds rest (act n ((d,.pointer (some ⟨b,o,none⟩))::l) D pm ro) h K) B w0 kl (gH b o [.bool z]::F)):=
 ⟨λr=>(O1 hn hg hx hi hf (by omega) (by omega)).h λb o z hz=>r b o z (by simpa using hz)⟩
end
inductive Fill(ρ:Operand->Value):List Value->List (Nat×Nat×Operand)->List Value->Prop
 |nil {cs:List Value}:Fill ρ cs [] cs
 |cons {cs vs cs' r:List Value} {off size:Nat} {x:Operand} {parts:List (Nat×Nat×Operand)} {v:Value} (h0:ρ x=v) (h1:cellsOf v=some vs) (h2:Nat.beq (ig vs) size=true) (h3:iL cs off vs=some cs') (t:Fill ρ cs' parts r):Fill ρ cs ((off,size,x)::parts) r
theorem Fill.eq{ρ:Operand->Value}:∀{zero:List Value} {parts:List (Nat×Nat×Operand)} {cs:List Value},Fill ρ zero parts cs->pG ρ zero parts=some cs
 |_,_,_,.nil=>rfl
 |cs0,_,_,.cons (off:=off) (size:=size) (x:=x) (parts:=parts) h0 h1 h2 h3 t=>by
  have ih:=t.eq;show(match cellsOf (ρ x)with
   |none=>none
   |some vs=>cond (Nat.beq (ig vs) size) (match iL cs0 off vs with
    |some cs=>pG ρ cs parts
    |none=>none) none)=_
  simp only[h0,h1,h2,h3,cond,ih]
theorem YS{B:List Nat}{w0:Wd}{kl:List OA}{F:List aJ}{K:KO}{ds:List Tmp}{rest:List bO}{n:Nat}{l:List (Nat×Value)}{D:List Deferred}{pm:Option FrameMode}{ro:Option Nat}{d:Nat}{g:Option (Tmp×Bool)}
 {t:TypeId} {len:Nat} {zero cs:List Value} {parts:List (Nat×Nat×Operand)} (hn:Nat.blt d n=true) (hg:bS l g=true) (hx:Fill (ev l) zero parts cs):
 dB (R (λh=>aD P ds (⟨⟨some d,g,.uo t len zero parts⟩,[]⟩::rest) (act n l D pm ro) h K) B w0 kl F)
 (∀b,R (λh=>aD P ds rest (act n ((d,.slice (some ⟨b,0,some 0⟩) len len)::l) D pm ro) h K) B w0 (pt b (.cells cs)::kl) F):=Yt hn hg hx.eq
theorem YT{B:List Nat}{w0:Wd}{kl:List OA}{F:List aJ}{K:KO}{ds:List Tmp}{rest:List bO}{n:Nat}{l:List (Nat×Value)}{D:List Deferred}{pm:Option FrameMode}{ro:Option Nat}{d:Nat}{g:Option (Tmp×Bool)}
 {zero cs:List Value} {parts:List (Nat×Nat×Operand)} (hn:Nat.blt d n=true) (hg:bS l g=true) (hx:Fill (ev l) zero parts cs):
 dB (R (λh=>aD P ds (⟨⟨some d,g,.build zero parts⟩,[]⟩::rest) (act n l D pm ro) h K) B w0 kl F) (R (λh=>aD P ds rest (act n ((d,.agg ⟨cs⟩)::l) D pm ro) h K) B w0 kl F):=fq hn hg (XZ hx.eq)
theorem aT{B:List Nat}{w0:Wd}{kl:List OA}{F:List aJ}{α:Type}{E:Enc α}{v:Value}{xs:List α}{Q:IH->Prop}(hf:ah E v xs∈F)(h:∀a c,v=.slice a xs.length c->R Q B w0 kl F):R Q B w0 kl F:=λw s=>by
 obtain⟨a,c,e⟩:=OZ (s.facts _ hf);exact h a c e w s
section
variable {B:List Nat} {w0:Wd} {kl:List OA} {F:List aJ} {K:KO} {ds:List Tmp} {rest:List bO} {n:Nat} {l:List (Nat×Value)} {D:List Deferred} {pm:Option FrameMode} {ro:Option Nat} {t1 t2:Nat}
theorem aI{e:Bool}(h1:e=false->R (λh=>aD P ds rest (act n ((t1,.bool false)::(t2,.bool false)::l) D pm ro) h K) B w0 kl F)(h2:e=true->R (λh=>aD P ds rest (act n ((t1,.bool true)::(t2,.bool true)::l) D pm ro) h K) B w0 kl F):
 R (λh=>aD P ds rest (act n ((t1,.bool e)::(t2,.bool e)::l) D pm ro) h K) B w0 kl F:=by
 cases e
 ·exact h1 rfl
 ·exact h2 rfl
theorem aL{p:Prop}{_:Decidable p}(h1:¬p->R (λh=>aD P ds rest (act n ((t1,.bool false)::(t2,.bool false)::l) D pm ro) h K) B w0 kl F)(h2:p->R (λh=>aD P ds rest (act n ((t1,.bool true)::(t2,.bool true)::l) D pm ro) h K) B w0 kl F):
 R (λh=>aD P ds rest (act n ((t1,.bool (decide p))::(t2,.bool (decide p))::l) D pm ro) h K) B w0 kl F:=
 aI (λe=>h1 (lY e)) (λe=>h2 (iB e))
theorem aK{p:Prop}{_:Decidable p}(h1:p->R (λh=>aD P ds rest (act n ((t1,.bool false)::(t2,.bool false)::l) D pm ro) h K) B w0 kl F)(h2:¬p->R (λh=>aD P ds rest (act n ((t1,.bool true)::(t2,.bool true)::l) D pm ro) h K) B w0 kl F):
 R (λh=>aD P ds rest (act n ((t1,.bool (!decide p))::(t2,.bool (!decide p))::l) D pm ro) h K) B w0 kl F:=
 aI (λe=>h1 (by simpa using e)) (λe=>h2 (by simpa using e))
end
section
variable {B:List Nat} {w0:Wd} {kl kl':List OA} {F:List aJ} {K:KO} {ds:List Tmp} {rest:List bO} {n:Nat} {l:List (Nat×Value)} {D:List Deferred} {pm:Option FrameMode} {ro:Option Nat} {d:Nat} {g:Option (Tmp×Bool)}
theorem YU{x:Operand}{t:TypeId}{v:Value}{cs:List Value}(hn:Nat.blt d n=true)(hg:bS l g=true)(hv:ev l x=v)(hx:cellsOf v=some cs):dB (R (λh=>aD P ds (⟨⟨some d,g,.box x t⟩,[]⟩::rest) (act n l D pm ro) h K) B w0 kl F)
 (∀b,R (λh=>aD P ds rest (act n ((d,.pointer (some ⟨b,0,none⟩))::l) D pm ro) h K) B w0 (pt b (.cells cs)::kl) F):=Yr hn hg (by rw[hv];exact hx)
theorem YV{x y:Operand}{b o m:Nat}{cs vs c:List Value}{v:Value}(hg:bS l g=true)(hx:ev l x=.pointer (some ⟨b,o,none⟩))(hw:ev l y=v)(hy:cellsOf v=some vs)(hm:Nat.beq (ig vs) m=true)
 (hk:ay (pt b (.cells cs)) kl kl') (hv:iL cs o vs=some c):
 dB (R (λh=>aD P ds (⟨⟨none,g,.store m x y⟩,[]⟩::rest) (act n l D pm ro) h K) B w0 kl F) (R (λh=>aD P ds rest (act n l D pm ro) h K) B w0 (pt b (.cells c)::kl') F):=YA hg hx (by rw[hw];exact hy) hm hk hv
end
theorem YW{B:List Nat}{w0:Wd}{kl:List OA}{F:List aJ}{K:KO}{ds:List Tmp}{rest:List bO}{n:Nat}{l:List (Nat×Value)}{D:List Deferred}{pm:Option FrameMode}{ro:Option Nat}{d:Nat}{g:Option (Tmp×Bool)}
 {fn:Fn} {first captured:List Operand} {a b:List Value} (hn:Nat.blt d n=true) (hg:bS l g=true) (h1:EvL (ev l) first a) (h2:EvL (ev l) captured b):
 dB (R (λh=>aD P ds (⟨⟨some d,g,.zz fn first captured⟩,[]⟩::rest) (act n l D pm ro) h K) B w0 kl F) (R (λh=>aD P ds rest (act n ((d,.func fn ⟨a⟩ ⟨b⟩)::l) D pm ro) h K) B w0 kl F):=fq hn hg (X0 h1 h2)
theorem go{G G':Prop}(x:G')(r:dB G G':=by
 repeat (first
  |((with_reducible apply dB.trans);first
   |with_reducible exact X3
   |with_reducible exact X4
   |with_reducible exact X5
   |with_reducible exact X6
   |with_reducible exact X7
   |with_reducible exact X8
   |with_reducible exact X9
   |with_reducible exact Ya
   |with_reducible exact Yb
   |with_reducible exact Yc
   |with_reducible exact Yd
   |with_reducible exact Ye
   |with_reducible exact Yf
   |with_reducible exact Yg
   |with_reducible exact Yh
   |with_reducible exact Yk
   |with_reducible exact Yl
   |with_reducible exact Ym
   |((with_reducible apply Yi);exact rfl)
   |((with_reducible apply Yj);exact rfl)
   |((with_reducible apply Yn);(focus exact rfl))
   |((with_reducible apply Yo);(focus exact rfl))
   |((with_reducible apply Yp);(focus exact rfl);(focus exact rfl))
   |((with_reducible apply YQ);(focus exact rfl);(focus exact rfl);(focus ((conv=>lhs;whnf);(first|done|fail)));(focus exact rfl);(focus (((repeat (first|with_reducible exact dx .. |with_reducible apply dA));first|done|fail);(first|done|fail)));(focus ((omega);(first|done|fail))))
   |((with_reducible apply YR);(focus exact rfl);(focus exact rfl);(focus ((conv=>lhs;whnf);(first|done|fail)));(focus exact rfl);(focus (((repeat (first|with_reducible exact dx .. |with_reducible apply dA));first|done|fail);(first|done|fail)));(focus ((omega);(first|done|fail))))
   |((with_reducible apply O0);(focus exact rfl);(focus exact rfl);(focus ((conv=>lhs;whnf);(first|done|fail)));(focus exact rfl);(focus (((repeat (first|with_reducible exact dx .. |with_reducible apply dA));first|done|fail);(first|done|fail)));(focus ((omega);(first|done|fail)));(focus ((omega);(first|done|fail))))
   |((with_reducible apply O1);(focus exact rfl);(focus exact rfl);(focus ((conv=>lhs;whnf);(first|done|fail)));(focus exact rfl);(focus (((repeat (first|with_reducible exact dx .. |with_reducible apply dA));first|done|fail);(first|done|fail)));(focus ((omega);(first|done|fail)));(focus ((omega);(first|done|fail))))
   |((with_reducible apply fq);(focus exact rfl);(focus exact rfl);(focus ((first|((with_reducible apply CB);(focus ((conv=>lhs;whnf);(first|done|fail))))|((with_reducible apply CE);(focus ((conv=>lhs;whnf);(first|done|fail))))|((with_reducible apply CK);(focus exact rfl))|((with_reducible apply CO);(focus exact rfl);(focus exact rfl))|((with_reducible apply CP);(focus exact rfl);(focus exact rfl))|((with_reducible apply CQ);(focus exact rfl);(focus exact rfl))|((with_reducible apply CR);(focus exact rfl);(focus exact rfl))|((with_reducible apply CS);(focus exact rfl);(focus exact rfl))|((with_reducible apply CU);(focus exact rfl);(focus exact rfl))|((with_reducible apply CJ);(focus exact rfl))|((with_reducible apply CF);(focus exact rfl);(focus ((conv=>lhs;whnf);(first|done|fail))))|((with_reducible apply CG);(focus exact rfl);(focus ((conv=>lhs;whnf);(first|done|fail))))|((with_reducible apply CY);(focus exact rfl);(focus ((conv=>lhs;whnf);(first|done|fail))))|((with_reducible apply CZ);(focus exact rfl))|((with_reducible apply C8);(focus exact rfl);(focus ((conv=>lhs;whnf);(first|done|fail))))|((with_reducible apply C9);(focus exact rfl);(focus ((conv=>lhs;whnf);(first|done|fail))))|((with_reducible apply Da);(focus ((conv=>lhs;whnf);(first|done|fail))))|((with_reducible apply Db);(focus exact rfl))|((with_reducible apply Dc);(focus exact rfl))|((with_reducible apply De);(focus exact rfl))|with_reducible exact CL|((with_reducible apply Df);(focus exact rfl);(focus exact rfl);(focus exact rfl))|((with_reducible apply Dp);(focus exact rfl);(focus exact rfl);(focus ((omega);(first|done|fail))))|((with_reducible apply Ab);(focus exact rfl);(focus exact rfl);(focus ((omega);(first|done|fail)));(focus ((omega);(first|done|fail))))|((with_reducible apply Dg);(focus exact rfl);(focus exact rfl);(focus ((omega);(first|done|fail)));(focus ((omega);(first|done|fail))))|((with_reducible apply yG);(focus exact rfl);(focus exact rfl);(focus ((omega);(first|done|fail)));(focus ((omega);(first|done|fail))))|((with_reducible apply CW);(focus exact rfl);(focus exact rfl);(focus ((omega);(first|done|fail)));(focus ((omega);(first|done|fail))))|((with_reducible apply Di);(focus exact rfl);(focus exact rfl);(focus ((first|assumption|kernel_rfl);(first|done|fail))))|((with_reducible apply Dj);(focus exact rfl);(focus exact rfl);(focus ((first|assumption|kernel_rfl);(first|done|fail))))|((with_reducible apply Dk);(focus exact rfl);(focus exact rfl))|((with_reducible apply Dl);(focus exact rfl);(focus exact rfl))|((with_reducible apply Dn);(focus exact rfl);(focus exact rfl);(focus ((omega);(first|done|fail)));(focus ((omega);(first|done|fail)))));(first|done|fail))))
   |((with_reducible apply YW);(focus exact rfl);(focus exact rfl);(focus (repeat (first|with_reducible exact EvL.nil|((with_reducible apply EvL.cons);(conv=>lhs;whnf)))));(focus (repeat (first|with_reducible exact EvL.nil|((with_reducible apply EvL.cons);(conv=>lhs;whnf))))))
   |((with_reducible apply YS);(focus exact rfl);(focus exact rfl);(focus (repeat (first|with_reducible exact Fill.nil|((with_reducible apply Fill.cons);(conv=>lhs;whnf);(conv=>lhs;whnf);(focus exact rfl);(conv=>lhs;whnf))))))
   |((with_reducible apply YT);(focus exact rfl);(focus exact rfl);(focus (repeat (first|with_reducible exact Fill.nil|((with_reducible apply Fill.cons);(conv=>lhs;whnf);(conv=>lhs;whnf);(focus exact rfl);(conv=>lhs;whnf))))))
   |((with_reducible apply YU);(focus exact rfl);(focus exact rfl);(focus ((conv=>lhs;whnf);(first|done|fail)));(focus ((conv=>lhs;whnf);(first|done|fail))))
   |((with_reducible apply Yq);(focus exact rfl);(focus exact rfl))
   |((with_reducible apply Yv);(focus exact rfl);(focus exact rfl);(focus exact rfl);(focus ((repeat (first|with_reducible exact ay.here|with_reducible apply ay.there|with_reducible apply ay.app));(first|done|fail)));(focus ((conv=>lhs;whnf);(first|done|fail))))
   |((with_reducible apply Yw);(focus exact rfl);(focus exact rfl);(focus exact rfl);(focus ((repeat (first|with_reducible exact ay.here|with_reducible apply ay.there|with_reducible apply ay.app));(first|done|fail)));(focus ((conv=>lhs;whnf);(first|done|fail))))
   |((with_reducible apply Yx);(focus exact rfl);(focus exact rfl);(focus exact rfl);(focus (((repeat (first|with_reducible exact dx .. |with_reducible apply dA));first|done|fail);(first|done|fail)));(focus ((conv=>lhs;whnf);(first|done|fail))))
   |((with_reducible apply Yy);(focus exact rfl);(focus exact rfl);(focus exact rfl);(focus (((repeat (first|with_reducible exact dx .. |with_reducible apply dA));first|done|fail);(first|done|fail)));(focus ((conv=>lhs;whnf);(first|done|fail))))
   |((with_reducible apply Yz);(focus exact rfl);(focus exact rfl);(focus exact rfl);(focus (((repeat (first|with_reducible exact dx .. |with_reducible apply dA));first|done|fail);(first|done|fail)));(focus ((conv=>lhs;whnf);(first|done|fail))))
   |((with_reducible apply OY);(focus exact rfl);(focus exact rfl);(focus exact rfl);(focus (((repeat (first|with_reducible exact dx .. |with_reducible apply dA));first|done|fail);(first|done|fail)));(focus ((conv=>lhs;whnf);(first|done|fail))))
   |((with_reducible apply YV);(focus exact rfl);(focus exact rfl);(focus ((conv=>lhs;whnf);(first|done|fail)));(focus ((conv=>lhs;whnf);(first|done|fail)));(focus exact rfl);(focus ((repeat (first|with_reducible exact ay.here|with_reducible apply ay.there|with_reducible apply ay.app));(first|done|fail)));(focus ((conv=>lhs;whnf);(first|done|fail))))
   |((with_reducible apply YE);(focus exact rfl);(focus exact rfl);(focus ((conv=>lhs;whnf);(first|done|fail)));(focus (((repeat (first|with_reducible exact dx .. |with_reducible apply dA));first|done|fail);(first|done|fail))))
   |((with_reducible apply YF);(focus exact rfl);(focus exact rfl);(focus ((conv=>lhs;whnf);(first|done|fail)));(focus ((repeat (first|with_reducible exact ay.here|with_reducible apply ay.there|with_reducible apply ay.app));(first|done|fail))))
   |((with_reducible apply YM (re:=_::_));(focus exact rfl);(focus exact rfl);(focus ((first|((with_reducible apply CB);(focus ((conv=>lhs;whnf);(first|done|fail))))|((with_reducible apply CE);(focus ((conv=>lhs;whnf);(first|done|fail))))|((with_reducible apply CK);(focus exact rfl))|((with_reducible apply CO);(focus exact rfl);(focus exact rfl))|((with_reducible apply CP);(focus exact rfl);(focus exact rfl))|((with_reducible apply CQ);(focus exact rfl);(focus exact rfl))|((with_reducible apply CR);(focus exact rfl);(focus exact rfl))|((with_reducible apply CS);(focus exact rfl);(focus exact rfl))|((with_reducible apply CU);(focus exact rfl);(focus exact rfl))|((with_reducible apply CJ);(focus exact rfl))|((with_reducible apply CF);(focus exact rfl);(focus ((conv=>lhs;whnf);(first|done|fail))))|((with_reducible apply CG);(focus exact rfl);(focus ((conv=>lhs;whnf);(first|done|fail))))|((with_reducible apply CY);(focus exact rfl);(focus ((conv=>lhs;whnf);(first|done|fail))))|((with_reducible apply CZ);(focus exact rfl))|((with_reducible apply C8);(focus exact rfl);(focus ((conv=>lhs;whnf);(first|done|fail))))|((with_reducible apply C9);(focus exact rfl);(focus ((conv=>lhs;whnf);(first|done|fail))))|((with_reducible apply Da);(focus ((conv=>lhs;whnf);(first|done|fail))))|((with_reducible apply Db);(focus exact rfl))|((with_reducible apply Dc);(focus exact rfl))|((with_reducible apply De);(focus exact rfl))|with_reducible exact CL|((with_reducible apply Df);(focus exact rfl);(focus exact rfl);(focus exact rfl))|((with_reducible apply Dp);(focus exact rfl);(focus exact rfl);(focus ((omega);(first|done|fail))))|((with_reducible apply Ab);(focus exact rfl);(focus exact rfl);(focus ((omega);(first|done|fail)));(focus ((omega);(first|done|fail))))|((with_reducible apply Dg);(focus exact rfl);(focus exact rfl);(focus ((omega);(first|done|fail)));(focus ((omega);(first|done|fail))))|((with_reducible apply yG);(focus exact rfl);(focus exact rfl);(focus ((omega);(first|done|fail)));(focus ((omega);(first|done|fail))))|((with_reducible apply CW);(focus exact rfl);(focus exact rfl);(focus ((omega);(first|done|fail)));(focus ((omega);(first|done|fail))))|((with_reducible apply Di);(focus exact rfl);(focus exact rfl);(focus ((first|assumption|kernel_rfl);(first|done|fail))))|((with_reducible apply Dj);(focus exact rfl);(focus exact rfl);(focus ((first|assumption|kernel_rfl);(first|done|fail))))|((with_reducible apply Dk);(focus exact rfl);(focus exact rfl))|((with_reducible apply Dl);(focus exact rfl);(focus exact rfl))|((with_reducible apply Dn);(focus exact rfl);(focus exact rfl);(focus ((omega);(first|done|fail)));(focus ((omega);(first|done|fail)))));(first|done|fail)));(focus ((repeat (first|exact yH|refine yI rfl (by repeat (first|with_reducible exact ay.here|with_reducible apply ay.there|with_reducible apply ay.app)) (by first|exact rfl|(conv=>lhs;whnf)) rfl ?_|refine Ad rfl (by(repeat (first|with_reducible exact dx .. |with_reducible apply dA));first|done|fail) (by first|exact rfl|(conv=>lhs;whnf)) rfl ?_|refine Ae rfl (by(repeat (first|with_reducible exact dx .. |with_reducible apply dA));first|done|fail) (by first|exact rfl|(conv=>lhs;whnf)) rfl ?_|refine Af rfl (by repeat (first|with_reducible exact ay.here|with_reducible apply ay.there|with_reducible apply ay.app)) (by first|exact rfl|(conv=>lhs;whnf)) rfl ?_|refine Ag rfl (by(repeat (first|with_reducible exact dx .. |with_reducible apply dA));first|done|fail) (by first|exact rfl|(conv=>lhs;whnf)) rfl ?_|refine Ah rfl (by(repeat (first|with_reducible exact dx .. |with_reducible apply dA));first|done|fail) (by first|exact rfl|(conv=>lhs;whnf)) rfl ?_));(first|done|fail))))
   |((with_reducible apply YL (re:=_::_));(focus exact rfl);(focus exact rfl);(focus ((conv=>lhs;whnf);(first|done|fail)));(focus ((conv=>lhs;whnf);(first|done|fail)));(focus exact rfl);(focus ((repeat (first|with_reducible exact ay.here|with_reducible apply ay.there|with_reducible apply ay.app));(first|done|fail)));(focus ((conv=>lhs;whnf);(first|done|fail)));(focus ((repeat (first|exact yH|refine yI rfl (by repeat (first|with_reducible exact ay.here|with_reducible apply ay.there|with_reducible apply ay.app)) (by first|exact rfl|(conv=>lhs;whnf)) rfl ?_|refine Ad rfl (by(repeat (first|with_reducible exact dx .. |with_reducible apply dA));first|done|fail) (by first|exact rfl|(conv=>lhs;whnf)) rfl ?_|refine Ae rfl (by(repeat (first|with_reducible exact dx .. |with_reducible apply dA));first|done|fail) (by first|exact rfl|(conv=>lhs;whnf)) rfl ?_|refine Af rfl (by repeat (first|with_reducible exact ay.here|with_reducible apply ay.there|with_reducible apply ay.app)) (by first|exact rfl|(conv=>lhs;whnf)) rfl ?_|refine Ag rfl (by(repeat (first|with_reducible exact dx .. |with_reducible apply dA));first|done|fail) (by first|exact rfl|(conv=>lhs;whnf)) rfl ?_|refine Ah rfl (by(repeat (first|with_reducible exact dx .. |with_reducible apply dA));first|done|fail) (by first|exact rfl|(conv=>lhs;whnf)) rfl ?_));(first|done|fail))))
   |fail)
  |((with_reducible apply dB.all);intro _)
  |with_reducible apply dB.imp)
 with_reducible exact dB.refl _):G:=r.h x
theorem jT{B:List Nat}{w0:Wd}{kl:List OA}{F:List aJ}{K:KO}{c:dm}{a:aU}(r:R (λh=>EV P c a h (wG P (.loop c) K)) B w0 kl F):R (λh=>EV P (.loop c) a h K) B w0 kl F:=λw s=>
 .loop _ (r w s) (λ_ _ hm=>hm) (λo a' h' hm hn=>by
  cases o with
  |normal=>exact absurd rfl hn
  |_=>exact hm)
theorem kE.sub{α:Type}{F0:List α}:∀{F:List α},kE F0 F->Sub F0 F:=λ{F} h=>by
 have:∀k:List α,(∀x∈k,x∈F)->Sub k F:=by
  intro k;induction k with
  |nil=>intro _;exact .nil
  |cons a k ih=>intro hk;exact .cons (hk a (dx ..)) (ih λx hx=>hk x (dA _ hx))
 exact this F0 h.mem
inductive bF{α:Type}:List α->List α->List α->Prop
 |nil {l:List α}:bF [] l l
 |cons {a:α} {k l m:List α} (h:bF k l m):bF (a::k) l (a::m)
 |self {k:List α}:bF k [] k
 |app {k l:List α}:bF k l (k++l)
theorem bF.eq{α:Type}:∀{k l m:List α},bF k l m->k++l=m
 |_,_,_,.nil=>rfl
 |_,_,_,.self=>gD _
 |_,_,_,.app=>rfl
 |_,_,_,.cons h=>by rw[eU,h.eq]
section
variable {B:List Nat} {w0:Wd} {kl kl' bA:List OA} {F:List aJ} {K:KO} {ds:List Tmp} {rest:List bO} {n:Nat} {l:List (Nat×Value)} {D:List Deferred} {pm:Option FrameMode} {ro:Option Nat} {d:Nat} {g:Option (Tmp×Bool)}
theorem ak{Y:Type}{f:Operand}{xs:List Operand}{re:List gI}{fn:Fn}{first captured vs as:List Value}{k1:List OA}{F1:List aJ}{val:Y->Value}{k1':Y->List OA}{fs:Y->List aJ}{pr:Y->Prop}{dX:Y->List OA}{F2:Y->List aJ}
 (hc:aZ P fn as captured k1 F1 val k1' fs pr) (hn:Nat.blt d n=true:=by rfl) (hg:bS l g=true:=by rfl) (hf:ev l f=.func fn ⟨first⟩ ⟨captured⟩:=by rfl) (hx:EvL (ev l) xs vs:=by repeat (first|with_reducible exact EvL.nil|((with_reducible apply EvL.cons);(conv=>lhs;whnf)))) (ha:first++vs=as:=by rfl)
 (hk:aH k1 kl bA:=by exact nD) (hF:Sub F1 F:=by exact mQ)
 (hak:∀y,bF (k1' y) bA (dX y):=by intro y;repeat (first|exact bF.nil|apply bF.cons|exact bF.self|exact bF.app)) (Aj:∀y,bF (fs y) F (F2 y):=by intro y;repeat (first|exact bF.nil|apply bF.cons|exact bF.self|exact bF.app))
 (hs:∀y,pr y->Same P re (ev ((d,val y)::l)) ((d,val y)::l) B w0 (dX y) (F2 y):=by intro _ _;repeat (first|exact yH|refine yI rfl (by repeat (first|with_reducible exact ay.here|with_reducible apply ay.there|with_reducible apply ay.app)) (by first|exact rfl|(conv=>lhs;whnf)) rfl ?_|refine Ad rfl (by(repeat (first|with_reducible exact dx .. |with_reducible apply dA));first|done|fail) (by first|exact rfl|(conv=>lhs;whnf)) rfl ?_|refine Ae rfl (by(repeat (first|with_reducible exact dx .. |with_reducible apply dA));first|done|fail) (by first|exact rfl|(conv=>lhs;whnf)) rfl ?_|refine Af rfl (by repeat (first|with_reducible exact ay.here|with_reducible apply ay.there|with_reducible apply ay.app)) (by first|exact rfl|(conv=>lhs;whnf)) rfl ?_|refine Ag rfl (by(repeat (first|with_reducible exact dx .. |with_reducible apply dA));first|done|fail) (by first|exact rfl|(conv=>lhs;whnf)) rfl ?_|refine Ah rfl (by(repeat (first|with_reducible exact dx .. |with_reducible apply dA));first|done|fail) (by first|exact rfl|(conv=>lhs;whnf)) rfl ?_|refine JO (by first|((with_reducible apply CB);(focus ((conv=>lhs;whnf);(first|done|fail))))|((with_reducible apply CE);(focus ((conv=>lhs;whnf);(first|done|fail))))|((with_reducible apply CK);(focus exact rfl))|((with_reducible apply CO);(focus exact rfl);(focus exact rfl))|((with_reducible apply CP);(focus exact rfl);(focus exact rfl))|((with_reducible apply CQ);(focus exact rfl);(focus exact rfl))|((with_reducible apply CR);(focus exact rfl);(focus exact rfl))|((with_reducible apply CS);(focus exact rfl);(focus exact rfl))|((with_reducible apply CU);(focus exact rfl);(focus exact rfl))|((with_reducible apply CJ);(focus exact rfl))|((with_reducible apply CF);(focus exact rfl);(focus ((conv=>lhs;whnf);(first|done|fail))))|((with_reducible apply CG);(focus exact rfl);(focus ((conv=>lhs;whnf);(first|done|fail))))|((with_reducible apply CY);(focus exact rfl);(focus ((conv=>lhs;whnf);(first|done|fail))))|((with_reducible apply CZ);(focus exact rfl))|((with_reducible apply C8);(focus exact rfl);(focus ((conv=>lhs;whnf);(first|done|fail))))|((with_reducible apply C9);(focus exact rfl);(focus ((conv=>lhs;whnf);(first|done|fail))))|((with_reducible apply Da);(focus ((conv=>lhs;whnf);(first|done|fail))))|((with_reducible apply Db);(focus exact rfl))|((with_reducible apply Dc);(focus exact rfl))|((with_reducible apply De);(focus exact rfl))|with_reducible exact CL|((with_reducible apply Df);(focus exact rfl);(focus exact rfl);(focus exact rfl))|((with_reducible apply Dp);(focus exact rfl);(focus exact rfl);(focus ((omega);(first|done|fail))))|((with_reducible apply Ab);(focus exact rfl);(focus exact rfl);(focus ((omega);(first|done|fail)));(focus ((omega);(first|done|fail))))|((with_reducible apply Dg);(focus exact rfl);(focus exact rfl);(focus ((omega);(first|done|fail)));(focus ((omega);(first|done|fail))))|((with_reducible apply yG);(focus exact rfl);(focus exact rfl);(focus ((omega);(first|done|fail)));(focus ((omega);(first|done|fail))))|((with_reducible apply CW);(focus exact rfl);(focus exact rfl);(focus ((omega);(first|done|fail)));(focus ((omega);(first|done|fail))))|((with_reducible apply Di);(focus exact rfl);(focus exact rfl);(focus ((first|assumption|kernel_rfl);(first|done|fail))))|((with_reducible apply Dj);(focus exact rfl);(focus exact rfl);(focus ((first|assumption|kernel_rfl);(first|done|fail))))|((with_reducible apply Dk);(focus exact rfl);(focus exact rfl))|((with_reducible apply Dl);(focus exact rfl);(focus exact rfl))|((with_reducible apply Dn);(focus exact rfl);(focus exact rfl);(focus ((omega);(first|done|fail)));(focus ((omega);(first|done|fail))))) rfl ?_))
 (next:∀y,pr y->R (λh=>aD P ds rest (act n ((d,val y)::l) D pm ro) h K) B w0 (dX y) (F2 y)):
 R (λh=>aD P ds (⟨⟨some d,g,.call f xs⟩,re⟩::rest) (act n l D pm ro) h K) B w0 kl F:=
 YN hc hn hg hf hx ha hk hF (λy hy=>by rw[(hak y).eq,(Aj y).eq];exact hs y hy) (λy hy=>by rw[(hak y).eq,(Aj y).eq];exact next y hy)
abbrev bY(P:Program)(f:FuncId)(args:List Value)(F:List aJ)(v:Value):Prop:=aZ P (.func f) args [] [] F (λ_:Unit=>v) (λ_=>[]) (λ_=>[]) (λ_=>True)
theorem aG{Y:Type}{f:FuncId}{args cap:List Value}{kl:List OA}{F:List aJ}{val:Y->Value}{kl':Y->List OA}{fs:Y->List aJ}{pr:Y->Prop}{c:dm}{m:Nat}{l0:List (Nat×Value)}(cf:gF)(hF:(mJ P oI oJ).F f=some cf)
 (hb:∀B w0,R (λh=>EV P c (act m l0 [] none none) h (zY cf (Left B w0 val kl' fs pr))) B w0 kl F)
 (h1:cf.body=c:=by conv=>lhs;(reduce;(try simp only[Int.reduceOfNat,Int.reduceNegSucc]))) (h2:pJ cf.ntmps (ig (args++cap))=m:=by conv=>lhs;whnf) (h3:nP 0 (args++cap) []=l0:=by dsimp only[nP,Nat.reduceAdd,List.append_nil,List.cons_append,List.nil_append]):aZ P (.func f) args cap kl F val kl' fs pr:=
 YJ cf hF (by rw[h1,h2,h3];exact hb)
theorem aY{α:Type}(E:Enc α){x i:Operand}{v:Value}{xs:List α}{size:Nat}{k:Nat}{kk:IntKind}{F2:α->E.Y->List aJ}(hn:Nat.blt d n=true:=by rfl)(hg:bS l g=true:=by rfl)(hx:ev l x=v:=by conv=>lhs;whnf)(hi:ev l i=.int kk (k:Int):=by rfl)
 (hf:ah E v xs∈F:=by exact qO) (hs:E.n=size:=by rfl) (h1:k<xs.length:=by omega)
 (ha:∀z y,bF (E.fs z y) F (F2 z y):=by intro z y;repeat (first|exact bF.nil|apply bF.cons|exact bF.self|exact bF.app))
 (next:∀b o z y,xs[k]? =some z->R (λh=>aD P ds rest (act n ((d,.pointer (some ⟨b,o,none⟩))::l) D pm ro) h K) B w0 kl (gH b o (E.pat z y)::F2 z y)):
 R (λh=>aD P ds (⟨⟨some d,g,.kV size x i⟩,[]⟩::rest) (act n l D pm ro) h K) B w0 kl F:=
 (JL hn hg hx hi hf hs (by omega) (by omega)).h λb o z y hz=>by rw[(ha z y).eq];exact next b o z y (by simpa using hz)
theorem aa{Y:Type}{o:Out}{cf:gF}{vs:List Value}{val:Y->Value}{k1:Y->List OA}{fs:Y->List aJ}{pr:Y->Prop}(y:Y)
 (hr:RS l kl cf.results vs:=by exact Ai) (hv:pW vs=val y:=by rfl) (hp:pr y)
 (hk:aH (k1 y) kl bA:=by exact nD) (hF:Sub (fs y) F:=by exact mQ)
 (ho:o=.normal\/o=.ret:=by first|exact .inl rfl|exact .inr rfl):R (λh=>zY cf (Left B w0 val k1 fs pr) o (act n l [] none ro) h) B w0 kl F:=
 O6 y hr hv hp hk hF ho
theorem bB{A:OA}{fs F2:List aJ}{Q:IH->Prop}(hA:qN A fs)(hk:ay A kl kl':=by exact gu)(ha:bF fs F F2:=by repeat (first|exact bF.nil|apply bF.cons|exact bF.self|exact bF.app))(h:R Q B w0 kl' F2):R Q B w0 kl F:=
 YG hA hk (by rw[ha.eq];exact h)
theorem aX{X:Type}{c:dm}{l0:List (Nat×Value)}{L2:X->List (Nat×Value)}{Dq:X->List OA}{Dr:X->List aJ}(m:X->Nat)(L:X->List (Nat×Value))(KL:X->List OA)(FF:X->List aJ)(inv:X->Prop)(x0:X)(hi:inv x0)
 (h0:pX l (L x0) l0:=by repeat (first|exact pX.nil|(apply pX.drop;(focus exact rfl))|(apply pX.keep;(focus exact rfl)))) (hl:sub (L x0++l0) l:=by repeat (first|exact trivial|refine⟨rfl,?_⟩))
 (hk:aH (KL x0) kl bA:=by exact nD) (hF:Sub (FF x0) F:=by exact mQ)
 (hak:∀x,bF (KL x) bA (Dq x):=by intro y;repeat (first|exact bF.nil|apply bF.cons|exact bF.self|exact bF.app)) (Aj:∀x,bF (FF x) F (Dr x):=by intro y;repeat (first|exact bF.nil|apply bF.cons|exact bF.self|exact bF.app))
 (hal:∀x,bF (L x) l0 (L2 x):=by intro y;repeat (first|exact bF.nil|apply bF.cons|exact bF.self|exact bF.app))
 (body:∀x,inv x->R (λh=>EV P c (act n (L2 x) D pm ro) h (uO (LI n D pm ro B w0 m L KL FF inv l0 bA F) (m x) K)) B w0 (Dq x) (Dr x)):
 R (λh=>EV P (.loop c) (act n l D pm ro) h K) B w0 kl F:=
 YO m L KL FF inv x0 hi l0 hl hk hF λx hx=>by rw[(hak x).eq,(Aj x).eq,(hal x).eq];exact body x hx
theorem aO{X:Type}{m:X->Nat}{L:X->List (Nat×Value)}{KL:X->List OA}{FF:X->List aJ}{inv:X->Prop}{l0:List (Nat×Value)}{Dt dX:List OA}{F0:List aJ}{m0:Nat}(x:X)(hm:m x<m0)(hi:inv x)
 (hl:sub (L x++l0) l:=by repeat (first|exact trivial|refine⟨rfl,?_⟩)) (ha:bF (KL x) bA Dt:=by repeat (first|exact bF.nil|apply bF.cons|exact bF.self|exact bF.app))
 (hk:aH Dt kl dX:=by exact nD) (hF:Sub (FF x) F:=by exact mQ)
 (yJ:kE F0 F:=by repeat (first|exact kE.here|apply kE.cons|apply kE.app)):
 R (λh=>uO (LI n D pm ro B w0 m L KL FF inv l0 bA F0) m0 K .normal (act n l D pm ro) h) B w0 kl F:=
 YP x hm hi hl (by rw[ha.eq];exact hk) hF yJ
end
end Go.Ideal
namespace Go.Ideal
noncomputable def FL(L:Lay):Wd:=⟨jI L,λi=>i<(jI L).next,λ_ h=>h⟩
end Go.Ideal
namespace Go.Ideal
open Go.ChangeShapes Go.WideShapes Go.ChangeAt Go.RowKit
variable {P:Program}
def Ak{α:Type}(P:Program)(t:TypeId)(E:Enc α):Prop:=∀(w:Wd) (H:Type) (d:DataW H) (cs:List Value),(∀i,i<w.h.next->w.z i)->gN P w.h t cs d->∃a y,cs=E.pat a y/\∀f∈E.fs a y,f.p w
theorem JP{α:Type}{p:Nat->α->Prop}:∀n,(∀k,k<n->∃a,p k a)->∃l:List α,l.length=n/\∀(k:Nat) a,l[k]? =some a->p k a
 |0,_=>⟨[],rfl,λk a h=>by cases h⟩
 |n+1,h=>by
  obtain⟨l,h1,h2⟩:=JP n (λk hk=>h k (by omega));obtain⟨a,ha⟩:=h n (by omega);refine⟨l++[a],by simp[h1],λk b hb=>?_⟩;by_cases hk:k<l.length
  ·rw[kU hk]at hb;exact h2 k b hb
  ·rw[mZ (by omega)]at hb;have hk0:k=n:=by have:=(bT.1 hb).1;simp at this;omega
   subst hk0;rw[h1]at hb;simp at hb;subst hb;exact ha
def O7{α β:Type}(E1:Enc α)(E2:Enc β):Enc (α×β):=⟨E1.n+E2.n,E1.Y×E2.Y,λa y=>E1.pat a.1 y.1++E2.pat a.2 y.2,λa y=>E1.fs a.1 y.1++E2.fs a.2 y.2,λa y=>by rw[gB,E1.len,E2.len]⟩
def O8:Enc Unit:=⟨0,Unit,λ_ _=>[],λ_ _=>[],λ_ _=>rfl⟩
inductive Al(P:Program):{α:Type}->List Field->Enc α->Prop
 |nil:Al P [] O8
 |cons {α β:Type} {f:Field} {fs:List Field} {E1:Enc α} {E2:Enc β} (h:Ak P f.type E1) (hn:P.cellsOf f.type=E1.n) (t:Al P fs E2):Al P (f::fs) (O7 E1 E2)
theorem Al.FM{w:Wd}{H:Type}(hz:∀i,i<w.h.next->w.z i):∀{α:Type} {fs:List Field} {E:Enc α},Al P fs E->∀(o0:Nat) (cs:List Value) (ds:List (DataW H)),cs.length=(fs.map λf=>P.cellsOf f.type).sum->ds.length=fs.length->
 fs.map (·.offset)=sums o0 (fs.map λf=>P.cellsOf f.type)->(∀(j:Nat) f d,fs[j]? =some f->ds[j]? =some d->gN P w.h f.type ((cs.drop (f.offset - o0)).take (P.cellsOf f.type)) d)->∃a y,cs=E.pat a y/\∀f∈E.fs a y,f.p w
 |_,_,_,.nil,o0,cs,ds,h1,h2,h3,h4=>⟨(),(),jl.1 (by simpa using h1),λf hf=>by cases hf⟩
 |_,_,_,.cons (f:=f) (fs:=fs) (E1:=E1) (E2:=E2) h hn t,o0,cs,ds,h1,h2,h3,h4=>by
  match ds,h2 with
  |d::ds,h2=>
   simp only[gY,List.sum_cons,sums,xL]at h1 h3;obtain⟨ho,h3⟩:=h3;have r0:=h4 0 f d rfl rfl;rw[ho,zw,uj]at r0;obtain⟨a,y,q1,q2⟩:=h w H d _ hz r0;obtain⟨b,z,u1,u2⟩:=Al.FM hz t (o0+P.cellsOf f.type) (cs.drop (P.cellsOf f.type)) ds (by rw[lX];omega) (by simpa using h2) h3 (λj g e hg he=>by
    have:=h4 (j+1) g e hg he;rw[List.drop_drop];have hle:o0+P.cellsOf f.type<=g.offset:=by
     have hj:(fs.map (·.offset))[j]? =some g.offset:=by rw[eY,hg];rfl
     rw[h3]at hj;have hs:(fs.map λf=>P.cellsOf f.type)[j]? =some (P.cellsOf g.type):=by rw[eY,hg];rfl
     exact(wI _ ([]:List Value) (o0+P.cellsOf f.type) j _ _ hj hs).2
    rw[show P.cellsOf f.type+(g.offset - (o0+P.cellsOf f.type))=g.offset - o0 by omega];exact this)
   refine⟨(a,b),(y,z),?_,?_⟩
   ·show cs=E1.pat a y++E2.pat b z;rw[<- q1,<- u1,uh]
   ·intro g hg;rcases dZ.1 hg with hg|hg
    ·exact q2 g hg
    ·exact u2 g hg
theorem Ak.conv{α β:Type}{t:TypeId}{E:Enc α}{E':Enc β}(h:Ak P t E)(hc:∀a y,∃b z,E.pat a y=E'.pat b z/\E.fs a y=E'.fs b z):Ak P t E':=λw H d cs hz r=>by
 obtain⟨a,y,q1,q2⟩:=h w H d cs hz r;obtain⟨b,z,e1,e2⟩:=hc a y;exact⟨b,z,by rw[q1,e1],λf hf=>q2 f (by rw[e2];exact hf)⟩
section
variable {H:Type} {enc:TypeId×Value->H} {W:World} {K:TypeId->Prop}
def tJ(P:Program)(w:Wd)(t:TypeId)(v:Value){H:Type}(d:DataW H):Prop:=∃cs,gN P w.h t cs d/\((jf P t=true/\v=.agg ⟨cs⟩)\/(jf P t=false/\cs=[v]))
theorem tJ.agg{α:Type}{w:Wd}{t:TypeId}{v:Value}{d:DataW H}{E:Enc α}(h:tJ P w t v d)(hz:∀i,i<w.h.next->w.z i)(ha:jf P t=true)(hr:Ak P t E):∃a y,v=.agg ⟨E.pat a y⟩/\∀f∈E.fs a y,f.p w:=by
 obtain⟨cs,r,⟨_,e⟩|⟨e,_⟩⟩:=h
 ·obtain⟨a,y,rfl,q⟩:=hr w H d cs hz r;exact⟨a,y,e,q⟩
 ·rw[ha]at e;cases e
theorem tJ.one{α:Type}{w:Wd}{t:TypeId}{v:Value}{d:DataW H}{E:Enc α}(h:tJ P w t v d)(hz:∀i,i<w.h.next->w.z i)(ha:jf P t=false)(hr:Ak P t E):∃a y,E.pat a y=[v]/\∀f∈E.fs a y,f.p w:=by
 obtain⟨cs,r,⟨e,_⟩|⟨_,e⟩⟩:=h
 ·rw[ha]at e;cases e
 ·obtain⟨a,y,q0,q⟩:=hr w H d cs hz r;exact⟨a,y,by rw[<- q0,e],q⟩
theorem YX{L:Lay}{t:TypeId}{v v0:Value}{d:DataW H}{w:Wd}(hw:w.h=jI L)(r:wK P (jI L) t v d)(hv:VR (ji L) v v0)(hok:Value.okWide P W .any 0 t v0):tJ P w t v d:=by
 obtain⟨cs,r1,h2,h3⟩:=r;refine⟨cs,by rw[hw];exact r1,?_⟩;cases ha:jf P t with
 |true=>
  left;refine⟨rfl,?_⟩;rcases h3 with e|e
  ·subst e;have hagg:∃c,v0=.agg c:=by
    unfold jf at ha;unfold Value.okWide at hok;split at ha
    ·rename_i fs hu;rw[hu]at hok;obtain⟨c,e,_⟩:=hok;exact⟨c,e⟩
    ·rename_i n e hu;rw[hu]at hok;obtain⟨c,e,_⟩:=hok;exact⟨c,e⟩
    ·cases ha
   obtain⟨c,rfl⟩:=hagg
   exfalso
   cases hv<;>simp[cellV]at h2
  ·exact e
 |false=>
  right;refine⟨rfl,?_⟩;rcases h3 with e|e
  ·exact e
  ·subst e
   exfalso
   cases hv with
   |agg hc hl=>
    cases hu:P.underlying t with
    |none=>simp[Value.okWide,Cell.okWide,Cell.ok,hu]at hok
    |some d=>cases d<;>simp[Value.okWide,Cell.okWide,Cell.ok,jf,hu]at hok ha
theorem YY{ts:List TypeId}{vs' vs:List Value}{L:Lay}(hv:aS (ji L) vs' vs):∀(j:Nat) v',vs'[j]? =some v'->∃v,vs[j]? =some v/\VR (ji L) v' v:=by
 intro j;induction j generalizing vs' vs with
 |zero=>
  intro v' h;cases hv with
  |nil=>cases h
  |cons h1 h2=>cases h;exact⟨_,rfl,h1⟩
 |succ j ih=>
  intro v' h;cases hv with
  |nil=>cases h
  |cons h1 h2=>exact ih h2 v' h
theorem O9{a:Nat}{b:Nat->Bool}{c:Bool}:∀{ts:List TypeId} {vs:List Value} {ds:List (DataW H)} {ps:List MemPlace},DataW.TrodAll enc P W a b c ts vs ds ps->vs.length=ts.length/\ds.length=ts.length
 |[],[],[],_,_=>⟨rfl,rfl⟩
 |_::_,_::_,_::_,_,⟨_,_,_,h,_⟩=>by
  have:=O9 h;simp[this.1,this.2]
theorem Pb{α:Type}{l:List α}(h:l.length=4):∃a b c d,l=[a,b,c,d]:=by
 match l,h with
 |[a,b,c,d],_=>exact⟨a,b,c,d,rfl⟩
end
