/-
  The ideal machine, 53: the road through what needs no thought; lists put in order.
-/
import Derived.Test.YtbdaaopebgcnaaaGreatDoorIdealJM
import Derived.Test.YtbdaaopebgcnaaaGreatDoorIdealIM
set_option linter.all false
namespace Go.Ideal
theorem mR{p:Prop}(h:p:=by repeat (first|exact Sub.nil|(apply Sub.cons;(focus ((repeat (first|with_reducible exact aS .. |with_reducible apply bW));first|done|fail)))|exact iQ.sub (by repeat (first|with_reducible exact iQ.here|with_reducible apply iQ.cons|with_reducible apply iQ.app)))):p:=h
theorem nP{p:Prop}(h:p:=by repeat (first|exact aL.nil|(apply aL.cons;(focus (repeat (first|with_reducible exact ah.here|with_reducible apply ah.there|with_reducible apply ah.app))))|with_reducible exact aL.all _|with_reducible exact aL.self _ _|with_reducible apply aL.there)):p:=h
theorem gp{p:Prop}(h:p:=by repeat (first|with_reducible exact ah.here|with_reducible apply ah.there|with_reducible apply ah.app)):p:=h
theorem y8{p:Prop}(h:p:=by repeat (first|exact RS.nil|(apply RS.tmp;(conv=>lhs;whnf))|(apply RS.cell1;(focus exact rfl);(focus (repeat (first|with_reducible exact ah.here|with_reducible apply ah.there|with_reducible apply ah.app)));(conv=>lhs;whnf))|(apply RS.wH;(focus exact rfl);(focus (repeat (first|with_reducible exact ah.here|with_reducible apply ah.there|with_reducible apply ah.app)));(conv=>lhs;whnf)))):p:=h
theorem mU{p:Prop}(h:p:=by(repeat (first|with_reducible exact aS .. |with_reducible apply bW));first|done|fail):p:=h
variable {P:Program}
section
variable {B:List Nat} {w0:Wd} {kl:List OA} {F:List aB} {K:KO} {ds:List Tmp} {rest:List aP} {n:Nat} {l:List (Nat×Value)} {D:List Deferred} {pm:Option FrameMode} {ro:Option Nat} {d:Nat} {g:Option (Tmp×Bool)}
theorem YB{x i:Operand}{v:Value}{xs:List Int}{k:Nat}{kk:IntKind}(hn:Nat.blt d n=true)(hg:aZ l g=true)(hx:ev l x=v)(hi:ev l i=.int kk (k:Int))(hf:ae az v xs∈F)(h1:k<xs.length):
 bK (R (λh=>ax P ds (⟨⟨some d,g,.fE 1 x i⟩,[]⟩::rest) (act n l D pm ro) h K) B w0 kl F)
  (∀b o z,xs[k]? =some z->R (λh=>ax P ds rest (act n ((d,.pointer (some ⟨b,o,none⟩))::l) D pm ro) h K) B w0 kl (bU b o [.int .i64 z]::F)):=
 ⟨λr=>(NY hn hg hx hi hf (by omega) (by omega)).h λb o z hz=>r b o z (by simpa using hz)⟩
theorem YC{x i:Operand}{v:Value}{xs:List Bool}{k:Nat}{kk:IntKind}(hn:Nat.blt d n=true)(hg:aZ l g=true)(hx:ev l x=v)(hi:ev l i=.int kk (k:Int))(hf:ae mO v xs∈F)(h1:k<xs.length):
 bK (R (λh=>ax P ds (⟨⟨some d,g,.fE 1 x i⟩,[]⟩::rest) (act n l D pm ro) h K) B w0 kl F)
  (∀b o z,xs[k]? =some z->R (λh=>ax P ds rest (act n ((d,.pointer (some ⟨b,o,none⟩))::l) D pm ro) h K) B w0 kl (bU b o [.bool z]::F)):=
 ⟨λr=>(NZ hn hg hx hi hf (by omega) (by omega)).h λb o z hz=>r b o z (by simpa using hz)⟩
end
inductive Fill(ρ:Operand->Value):List Value->List (Nat×Nat×Operand)->List Value->Prop
 |nil {cs:List Value}:Fill ρ cs [] cs
 |cons {cs vs cs' r:List Value} {off size:Nat} {x:Operand} {parts:List (Nat×Nat×Operand)} {v:Value} (h0:ρ x=v) (h1:cellsOf v=some vs) (h2:Nat.beq (fZ vs) size=true) (h3:fV cs off vs=some cs') (t:Fill ρ cs' parts r):Fill ρ cs ((off,size,x)::parts) r
theorem Fill.eq{ρ:Operand->Value}:∀{zero:List Value} {parts:List (Nat×Nat×Operand)} {cs:List Value},Fill ρ zero parts cs->ol ρ zero parts=some cs
 |_,_,_,.nil=>rfl
 |cs0,_,_,.cons (off:=off) (size:=size) (x:=x) (parts:=parts) h0 h1 h2 h3 t=>by
  have ih:=t.eq;show(match cellsOf (ρ x)with
   |none=>none
   |some vs=>cond (Nat.beq (fZ vs) size) (match fV cs0 off vs with
    |some cs=>ol ρ cs parts
    |none=>none) none)=_
  simp only[h0,h1,h2,h3,cond,ih]
theorem YD{B:List Nat}{w0:Wd}{kl:List OA}{F:List aB}{K:KO}{ds:List Tmp}{rest:List aP}{n:Nat}{l:List (Nat×Value)}{D:List Deferred}{pm:Option FrameMode}{ro:Option Nat}{d:Nat}{g:Option (Tmp×Bool)}
 {t:TypeId} {len:Nat} {zero cs:List Value} {parts:List (Nat×Nat×Operand)} (hn:Nat.blt d n=true) (hg:aZ l g=true) (hx:Fill (ev l) zero parts cs):
 bK (R (λh=>ax P ds (⟨⟨some d,g,.dV t len zero parts⟩,[]⟩::rest) (act n l D pm ro) h K) B w0 kl F)
 (∀b,R (λh=>ax P ds rest (act n ((d,.slice (some ⟨b,0,some 0⟩) len len)::l) D pm ro) h K) B w0 (pt b (.cells cs)::kl) F):=Ye hn hg hx.eq
theorem YE{B:List Nat}{w0:Wd}{kl:List OA}{F:List aB}{K:KO}{ds:List Tmp}{rest:List aP}{n:Nat}{l:List (Nat×Value)}{D:List Deferred}{pm:Option FrameMode}{ro:Option Nat}{d:Nat}{g:Option (Tmp×Bool)}
 {zero cs:List Value} {parts:List (Nat×Nat×Operand)} (hn:Nat.blt d n=true) (hg:aZ l g=true) (hx:Fill (ev l) zero parts cs):
 bK (R (λh=>ax P ds (⟨⟨some d,g,.build zero parts⟩,[]⟩::rest) (act n l D pm ro) h K) B w0 kl F) (R (λh=>ax P ds rest (act n ((d,.agg ⟨cs⟩)::l) D pm ro) h K) B w0 kl F):=bV hn hg (XK hx.eq)
theorem eU{B:List Nat}{w0:Wd}{kl:List OA}{F:List aB}{α:Type}{E:Enc α}{v:Value}{xs:List α}{Q:IH->Prop}(hf:ae E v xs∈F)(h:∀a c,v=.slice a xs.length c->R Q B w0 kl F):R Q B w0 kl F:=λw s=>by
 obtain⟨a,c,e⟩:=NV (s.facts _ hf);exact h a c e w s
section
variable {B:List Nat} {w0:Wd} {kl:List OA} {F:List aB} {K:KO} {ds:List Tmp} {rest:List aP} {n:Nat} {l:List (Nat×Value)} {D:List Deferred} {pm:Option FrameMode} {ro:Option Nat} {t1 t2:Nat}
theorem YF{e:Bool}(h1:e=false->R (λh=>ax P ds rest (act n ((t1,.bool false)::(t2,.bool false)::l) D pm ro) h K) B w0 kl F)(h2:e=true->R (λh=>ax P ds rest (act n ((t1,.bool true)::(t2,.bool true)::l) D pm ro) h K) B w0 kl F):
 R (λh=>ax P ds rest (act n ((t1,.bool e)::(t2,.bool e)::l) D pm ro) h K) B w0 kl F:=by
 cases e
 ·exact h1 rfl
 ·exact h2 rfl
end
section
variable {B:List Nat} {w0:Wd} {kl kl':List OA} {F:List aB} {K:KO} {ds:List Tmp} {rest:List aP} {n:Nat} {l:List (Nat×Value)} {D:List Deferred} {pm:Option FrameMode} {ro:Option Nat} {d:Nat} {g:Option (Tmp×Bool)}
theorem YG{x:Operand}{t:TypeId}{v:Value}{cs:List Value}(hn:Nat.blt d n=true)(hg:aZ l g=true)(hv:ev l x=v)(hx:cellsOf v=some cs):bK (R (λh=>ax P ds (⟨⟨some d,g,.box x t⟩,[]⟩::rest) (act n l D pm ro) h K) B w0 kl F)
 (∀b,R (λh=>ax P ds rest (act n ((d,.pointer (some ⟨b,0,none⟩))::l) D pm ro) h K) B w0 (pt b (.cells cs)::kl) F):=Yd hn hg (by rw[hv];exact hx)
theorem YH{x y:Operand}{b o m:Nat}{cs vs c:List Value}{v:Value}(hg:aZ l g=true)(hx:ev l x=.pointer (some ⟨b,o,none⟩))(hw:ev l y=v)(hy:cellsOf v=some vs)(hm:Nat.beq (fZ vs) m=true)
 (hk:ah (pt b (.cells cs)) kl kl') (hv:fV cs o vs=some c):
 bK (R (λh=>ax P ds (⟨⟨none,g,.store m x y⟩,[]⟩::rest) (act n l D pm ro) h K) B w0 kl F) (R (λh=>ax P ds rest (act n l D pm ro) h K) B w0 (pt b (.cells c)::kl') F):=NU hg hx (by rw[hw];exact hy) hm hk hv
end
theorem YI{B:List Nat}{w0:Wd}{kl:List OA}{F:List aB}{K:KO}{ds:List Tmp}{rest:List aP}{n:Nat}{l:List (Nat×Value)}{D:List Deferred}{pm:Option FrameMode}{ro:Option Nat}{d:Nat}{g:Option (Tmp×Bool)}
 {fn:Fn} {first captured:List Operand} {a b:List Value} (hn:Nat.blt d n=true) (hg:aZ l g=true) (h1:EvL (ev l) first a) (h2:EvL (ev l) captured b):
 bK (R (λh=>ax P ds (⟨⟨some d,g,.zY fn first captured⟩,[]⟩::rest) (act n l D pm ro) h K) B w0 kl F) (R (λh=>ax P ds rest (act n ((d,.func fn ⟨a⟩ ⟨b⟩)::l) D pm ro) h K) B w0 kl F):=bV hn hg (XL h1 h2)
theorem go{G G':Prop}(x:G')(r:bK G G':=by
 repeat (first
  |((with_reducible apply bK.trans);first
   |with_reducible exact XM
   |with_reducible exact XN
   |with_reducible exact XO
   |with_reducible exact XP
   |with_reducible exact XQ
   |with_reducible exact XR
   |with_reducible exact XT
   |with_reducible exact NS
   |with_reducible exact XU
   |with_reducible exact XV
   |with_reducible exact XW
   |with_reducible exact XX
   |with_reducible exact XY
   |with_reducible exact XZ
   |with_reducible exact X0
   |with_reducible exact X5
   |with_reducible exact X6
   |with_reducible exact X7
   |((with_reducible apply X3);exact rfl)
   |((with_reducible apply X4);exact rfl)
   |((with_reducible apply X8);(focus exact rfl))
   |((with_reducible apply X9);(focus exact rfl))
   |((with_reducible apply Ya);(focus exact rfl);(focus exact rfl))
   |((with_reducible apply YB);(focus exact rfl);(focus exact rfl);(focus ((conv=>lhs;whnf);(first|done|fail)));(focus exact rfl);(focus (((repeat (first|with_reducible exact aS .. |with_reducible apply bW));first|done|fail);(first|done|fail)));(focus ((omega);(first|done|fail))))
   |((with_reducible apply YC);(focus exact rfl);(focus exact rfl);(focus ((conv=>lhs;whnf);(first|done|fail)));(focus exact rfl);(focus (((repeat (first|with_reducible exact aS .. |with_reducible apply bW));first|done|fail);(first|done|fail)));(focus ((omega);(first|done|fail))))
   |((with_reducible apply NY);(focus exact rfl);(focus exact rfl);(focus ((conv=>lhs;whnf);(first|done|fail)));(focus exact rfl);(focus (((repeat (first|with_reducible exact aS .. |with_reducible apply bW));first|done|fail);(first|done|fail)));(focus ((omega);(first|done|fail)));(focus ((omega);(first|done|fail))))
   |((with_reducible apply NZ);(focus exact rfl);(focus exact rfl);(focus ((conv=>lhs;whnf);(first|done|fail)));(focus exact rfl);(focus (((repeat (first|with_reducible exact aS .. |with_reducible apply bW));first|done|fail);(first|done|fail)));(focus ((omega);(first|done|fail)));(focus ((omega);(first|done|fail))))
   |((with_reducible apply bV);(focus exact rfl);(focus exact rfl);(focus ((first|((with_reducible apply DI);(focus ((conv=>lhs;whnf);(first|done|fail))))|((with_reducible apply Bn);(focus ((conv=>lhs;whnf);(first|done|fail))))|((with_reducible apply Bo);(focus exact rfl))|((with_reducible apply DR);(focus exact rfl);(focus exact rfl))|((with_reducible apply DT);(focus exact rfl);(focus exact rfl))|((with_reducible apply DU);(focus exact rfl);(focus exact rfl))|((with_reducible apply DV);(focus exact rfl);(focus exact rfl))|((with_reducible apply DW);(focus exact rfl);(focus exact rfl))|((with_reducible apply DX);(focus exact rfl);(focus exact rfl))|((with_reducible apply DL);(focus exact rfl))|((with_reducible apply DJ);(focus exact rfl);(focus ((conv=>lhs;whnf);(first|done|fail))))|((with_reducible apply DK);(focus exact rfl);(focus ((conv=>lhs;whnf);(first|done|fail))))|((with_reducible apply D5);(focus exact rfl);(focus ((conv=>lhs;whnf);(first|done|fail))))|((with_reducible apply D6);(focus exact rfl))|((with_reducible apply D7);(focus exact rfl);(focus ((conv=>lhs;whnf);(first|done|fail))))|((with_reducible apply D8);(focus exact rfl);(focus ((conv=>lhs;whnf);(first|done|fail))))|((with_reducible apply D9);(focus ((conv=>lhs;whnf);(first|done|fail))))|((with_reducible apply Ea);(focus exact rfl))|((with_reducible apply Eb);(focus exact rfl))|((with_reducible apply Ec);(focus exact rfl))|with_reducible exact DN|((with_reducible apply Ed);(focus exact rfl);(focus exact rfl);(focus exact rfl))|((with_reducible apply Er);(focus exact rfl);(focus exact rfl);(focus ((omega);(first|done|fail))))|((with_reducible apply Bp);(focus exact rfl);(focus exact rfl);(focus ((omega);(first|done|fail)));(focus ((omega);(first|done|fail))))|((with_reducible apply Ee);(focus exact rfl);(focus exact rfl);(focus ((omega);(first|done|fail)));(focus ((omega);(first|done|fail))))|((with_reducible apply DY);(focus exact rfl);(focus exact rfl);(focus ((omega);(first|done|fail)));(focus ((omega);(first|done|fail))))|((with_reducible apply DZ);(focus exact rfl);(focus exact rfl);(focus ((omega);(first|done|fail)));(focus ((omega);(first|done|fail))))|((with_reducible apply Eh);(focus exact rfl);(focus exact rfl);(focus ((first|assumption|kernel_rfl);(first|done|fail))))|((with_reducible apply Ei);(focus exact rfl);(focus exact rfl);(focus ((first|assumption|kernel_rfl);(first|done|fail))))|((with_reducible apply Ej);(focus exact rfl);(focus exact rfl))|((with_reducible apply Em);(focus exact rfl);(focus exact rfl))|((with_reducible apply Eo);(focus exact rfl);(focus exact rfl);(focus ((omega);(first|done|fail)));(focus ((omega);(first|done|fail)))));(first|done|fail))))
   |((with_reducible apply YI);(focus exact rfl);(focus exact rfl);(focus (repeat (first|with_reducible exact EvL.nil|((with_reducible apply EvL.cons);(conv=>lhs;whnf)))));(focus (repeat (first|with_reducible exact EvL.nil|((with_reducible apply EvL.cons);(conv=>lhs;whnf))))))
   |((with_reducible apply YD);(focus exact rfl);(focus exact rfl);(focus (repeat (first|with_reducible exact Fill.nil|((with_reducible apply Fill.cons);(conv=>lhs;whnf);(conv=>lhs;whnf);(focus exact rfl);(conv=>lhs;whnf))))))
   |((with_reducible apply YE);(focus exact rfl);(focus exact rfl);(focus (repeat (first|with_reducible exact Fill.nil|((with_reducible apply Fill.cons);(conv=>lhs;whnf);(conv=>lhs;whnf);(focus exact rfl);(conv=>lhs;whnf))))))
   |((with_reducible apply YG);(focus exact rfl);(focus exact rfl);(focus ((conv=>lhs;whnf);(first|done|fail)));(focus ((conv=>lhs;whnf);(first|done|fail))))
   |((with_reducible apply Yc);(focus exact rfl);(focus exact rfl))
   |((with_reducible apply Yg);(focus exact rfl);(focus exact rfl);(focus exact rfl);(focus ((repeat (first|with_reducible exact ah.here|with_reducible apply ah.there|with_reducible apply ah.app));(first|done|fail)));(focus ((conv=>lhs;whnf);(first|done|fail))))
   |((with_reducible apply IY);(focus exact rfl);(focus exact rfl);(focus exact rfl);(focus ((repeat (first|with_reducible exact ah.here|with_reducible apply ah.there|with_reducible apply ah.app));(first|done|fail)));(focus ((conv=>lhs;whnf);(first|done|fail))))
   |((with_reducible apply Yh);(focus exact rfl);(focus exact rfl);(focus exact rfl);(focus (((repeat (first|with_reducible exact aS .. |with_reducible apply bW));first|done|fail);(first|done|fail)));(focus ((conv=>lhs;whnf);(first|done|fail))))
   |((with_reducible apply pM);(focus exact rfl);(focus exact rfl);(focus exact rfl);(focus (((repeat (first|with_reducible exact aS .. |with_reducible apply bW));first|done|fail);(first|done|fail)));(focus ((conv=>lhs;whnf);(first|done|fail))))
   |((with_reducible apply Yi);(focus exact rfl);(focus exact rfl);(focus exact rfl);(focus (((repeat (first|with_reducible exact aS .. |with_reducible apply bW));first|done|fail);(first|done|fail)));(focus ((conv=>lhs;whnf);(first|done|fail))))
   |((with_reducible apply Yj);(focus exact rfl);(focus exact rfl);(focus exact rfl);(focus (((repeat (first|with_reducible exact aS .. |with_reducible apply bW));first|done|fail);(first|done|fail)));(focus ((conv=>lhs;whnf);(first|done|fail))))
   |((with_reducible apply YH);(focus exact rfl);(focus exact rfl);(focus ((conv=>lhs;whnf);(first|done|fail)));(focus ((conv=>lhs;whnf);(first|done|fail)));(focus exact rfl);(focus ((repeat (first|with_reducible exact ah.here|with_reducible apply ah.there|with_reducible apply ah.app));(first|done|fail)));(focus ((conv=>lhs;whnf);(first|done|fail))))
   |((with_reducible apply Yn);(focus exact rfl);(focus exact rfl);(focus ((conv=>lhs;whnf);(first|done|fail)));(focus (((repeat (first|with_reducible exact aS .. |with_reducible apply bW));first|done|fail);(first|done|fail))))
   |((with_reducible apply Yo);(focus exact rfl);(focus exact rfl);(focus ((conv=>lhs;whnf);(first|done|fail)));(focus ((repeat (first|with_reducible exact ah.here|with_reducible apply ah.there|with_reducible apply ah.app));(first|done|fail))))
   |((with_reducible apply Yw (re:=_::_));(focus exact rfl);(focus exact rfl);(focus ((first|((with_reducible apply DI);(focus ((conv=>lhs;whnf);(first|done|fail))))|((with_reducible apply Bn);(focus ((conv=>lhs;whnf);(first|done|fail))))|((with_reducible apply Bo);(focus exact rfl))|((with_reducible apply DR);(focus exact rfl);(focus exact rfl))|((with_reducible apply DT);(focus exact rfl);(focus exact rfl))|((with_reducible apply DU);(focus exact rfl);(focus exact rfl))|((with_reducible apply DV);(focus exact rfl);(focus exact rfl))|((with_reducible apply DW);(focus exact rfl);(focus exact rfl))|((with_reducible apply DX);(focus exact rfl);(focus exact rfl))|((with_reducible apply DL);(focus exact rfl))|((with_reducible apply DJ);(focus exact rfl);(focus ((conv=>lhs;whnf);(first|done|fail))))|((with_reducible apply DK);(focus exact rfl);(focus ((conv=>lhs;whnf);(first|done|fail))))|((with_reducible apply D5);(focus exact rfl);(focus ((conv=>lhs;whnf);(first|done|fail))))|((with_reducible apply D6);(focus exact rfl))|((with_reducible apply D7);(focus exact rfl);(focus ((conv=>lhs;whnf);(first|done|fail))))|((with_reducible apply D8);(focus exact rfl);(focus ((conv=>lhs;whnf);(first|done|fail))))|((with_reducible apply D9);(focus ((conv=>lhs;whnf);(first|done|fail))))|((with_reducible apply Ea);(focus exact rfl))|((with_reducible apply Eb);(focus exact rfl))|((with_reducible apply Ec);(focus exact rfl))|with_reducible exact DN|((with_reducible apply Ed);(focus exact rfl);(focus exact rfl);(focus exact rfl))|((with_reducible apply Er);(focus exact rfl);(focus exact rfl);(focus ((omega);(first|done|fail))))|((with_reducible apply Bp);(focus exact rfl);(focus exact rfl);(focus ((omega);(first|done|fail)));(focus ((omega);(first|done|fail))))|((with_reducible apply Ee);(focus exact rfl);(focus exact rfl);(focus ((omega);(first|done|fail)));(focus ((omega);(first|done|fail))))|((with_reducible apply DY);(focus exact rfl);(focus exact rfl);(focus ((omega);(first|done|fail)));(focus ((omega);(first|done|fail))))|((with_reducible apply DZ);(focus exact rfl);(focus exact rfl);(focus ((omega);(first|done|fail)));(focus ((omega);(first|done|fail))))|((with_reducible apply Eh);(focus exact rfl);(focus exact rfl);(focus ((first|assumption|kernel_rfl);(first|done|fail))))|((with_reducible apply Ei);(focus exact rfl);(focus exact rfl);(focus ((first|assumption|kernel_rfl);(first|done|fail))))|((with_reducible apply Ej);(focus exact rfl);(focus exact rfl))|((with_reducible apply Em);(focus exact rfl);(focus exact rfl))|((with_reducible apply Eo);(focus exact rfl);(focus exact rfl);(focus ((omega);(first|done|fail)));(focus ((omega);(first|done|fail)))));(first|done|fail)));(focus ((repeat (first|exact qK|refine pO rfl (by repeat (first|with_reducible exact ah.here|with_reducible apply ah.there|with_reducible apply ah.app)) (by first|exact rfl|(conv=>lhs;whnf)) rfl ?_|refine yV rfl (by(repeat (first|with_reducible exact aS .. |with_reducible apply bW));first|done|fail) (by first|exact rfl|(conv=>lhs;whnf)) rfl ?_|refine yX rfl (by(repeat (first|with_reducible exact aS .. |with_reducible apply bW));first|done|fail) (by first|exact rfl|(conv=>lhs;whnf)) rfl ?_|refine yY rfl (by repeat (first|with_reducible exact ah.here|with_reducible apply ah.there|with_reducible apply ah.app)) (by first|exact rfl|(conv=>lhs;whnf)) rfl ?_|refine yZ rfl (by(repeat (first|with_reducible exact aS .. |with_reducible apply bW));first|done|fail) (by first|exact rfl|(conv=>lhs;whnf)) rfl ?_|refine y7 rfl (by(repeat (first|with_reducible exact aS .. |with_reducible apply bW));first|done|fail) (by first|exact rfl|(conv=>lhs;whnf)) rfl ?_));(first|done|fail))))
   |((with_reducible apply Yv (re:=_::_));(focus exact rfl);(focus exact rfl);(focus ((conv=>lhs;whnf);(first|done|fail)));(focus ((conv=>lhs;whnf);(first|done|fail)));(focus exact rfl);(focus ((repeat (first|with_reducible exact ah.here|with_reducible apply ah.there|with_reducible apply ah.app));(first|done|fail)));(focus ((conv=>lhs;whnf);(first|done|fail)));(focus ((repeat (first|exact qK|refine pO rfl (by repeat (first|with_reducible exact ah.here|with_reducible apply ah.there|with_reducible apply ah.app)) (by first|exact rfl|(conv=>lhs;whnf)) rfl ?_|refine yV rfl (by(repeat (first|with_reducible exact aS .. |with_reducible apply bW));first|done|fail) (by first|exact rfl|(conv=>lhs;whnf)) rfl ?_|refine yX rfl (by(repeat (first|with_reducible exact aS .. |with_reducible apply bW));first|done|fail) (by first|exact rfl|(conv=>lhs;whnf)) rfl ?_|refine yY rfl (by repeat (first|with_reducible exact ah.here|with_reducible apply ah.there|with_reducible apply ah.app)) (by first|exact rfl|(conv=>lhs;whnf)) rfl ?_|refine yZ rfl (by(repeat (first|with_reducible exact aS .. |with_reducible apply bW));first|done|fail) (by first|exact rfl|(conv=>lhs;whnf)) rfl ?_|refine y7 rfl (by(repeat (first|with_reducible exact aS .. |with_reducible apply bW));first|done|fail) (by first|exact rfl|(conv=>lhs;whnf)) rfl ?_));(first|done|fail))))
   |fail)
  |((with_reducible apply bK.all);intro _)
  |with_reducible apply bK.imp)
 with_reducible exact bK.refl _):G:=r.h x
theorem iQ.sub{α:Type}{F0:List α}:∀{F:List α},iQ F0 F->Sub F0 F:=λ{F} h=>by
 have:∀k:List α,(∀x∈k,x∈F)->Sub k F:=by
  intro k;induction k with
  |nil=>intro _;exact .nil
  |cons a k ih=>intro hk;exact .cons (hk a (aS ..)) (ih λx hx=>hk x (bW _ hx))
 exact this F0 h.mem
inductive bO{α:Type}:List α->List α->List α->Prop
 |nil {l:List α}:bO [] l l
 |cons {a:α} {k l m:List α} (h:bO k l m):bO (a::k) l (a::m)
 |self {k:List α}:bO k [] k
 |app {k l:List α}:bO k l (k++l)
theorem bO.eq{α:Type}:∀{k l m:List α},bO k l m->k++l=m
 |_,_,_,.nil=>rfl
 |_,_,_,.self=>fJ _
 |_,_,_,.app=>rfl
 |_,_,_,.cons h=>by rw[fC,h.eq]
section
variable {B:List Nat} {w0:Wd} {kl kl' aW:List OA} {F:List aB} {K:KO} {ds:List Tmp} {rest:List aP} {n:Nat} {l:List (Nat×Value)} {D:List Deferred} {pm:Option FrameMode} {ro:Option Nat} {d:Nat} {g:Option (Tmp×Bool)}
theorem aG{Y:Type}{f:Operand}{xs:List Operand}{re:List fq}{fn:Fn}{first captured vs as:List Value}{k1:List OA}{F1:List aB}{val:Y->Value}{k1':Y->List OA}{fs:Y->List aB}{pr:Y->Prop}{eu:Y->List OA}{F2:Y->List aB}
 (hc:aT P fn as captured k1 F1 val k1' fs pr) (hn:Nat.blt d n=true:=by rfl) (hg:aZ l g=true:=by rfl) (hf:ev l f=.func fn ⟨first⟩ ⟨captured⟩:=by rfl) (hx:EvL (ev l) xs vs:=by repeat (first|with_reducible exact EvL.nil|((with_reducible apply EvL.cons);(conv=>lhs;whnf)))) (ha:first++vs=as:=by rfl)
 (hk:aL k1 kl aW:=by exact nP) (hF:Sub F1 F:=by exact mR)
 (hak:∀y,bO (k1' y) aW (eu y):=by intro y;repeat (first|exact bO.nil|apply bO.cons|exact bO.self|exact bO.app)) (Es:∀y,bO (fs y) F (F2 y):=by intro y;repeat (first|exact bO.nil|apply bO.cons|exact bO.self|exact bO.app))
 (hs:∀y,pr y->Same P re (ev ((d,val y)::l)) ((d,val y)::l) B w0 (eu y) (F2 y):=by intro _ _;repeat (first|exact qK|refine pO rfl (by repeat (first|with_reducible exact ah.here|with_reducible apply ah.there|with_reducible apply ah.app)) (by first|exact rfl|(conv=>lhs;whnf)) rfl ?_|refine yV rfl (by(repeat (first|with_reducible exact aS .. |with_reducible apply bW));first|done|fail) (by first|exact rfl|(conv=>lhs;whnf)) rfl ?_|refine yX rfl (by(repeat (first|with_reducible exact aS .. |with_reducible apply bW));first|done|fail) (by first|exact rfl|(conv=>lhs;whnf)) rfl ?_|refine yY rfl (by repeat (first|with_reducible exact ah.here|with_reducible apply ah.there|with_reducible apply ah.app)) (by first|exact rfl|(conv=>lhs;whnf)) rfl ?_|refine yZ rfl (by(repeat (first|with_reducible exact aS .. |with_reducible apply bW));first|done|fail) (by first|exact rfl|(conv=>lhs;whnf)) rfl ?_|refine y7 rfl (by(repeat (first|with_reducible exact aS .. |with_reducible apply bW));first|done|fail) (by first|exact rfl|(conv=>lhs;whnf)) rfl ?_|refine N9 (by first|((with_reducible apply DI);(focus ((conv=>lhs;whnf);(first|done|fail))))|((with_reducible apply Bn);(focus ((conv=>lhs;whnf);(first|done|fail))))|((with_reducible apply Bo);(focus exact rfl))|((with_reducible apply DR);(focus exact rfl);(focus exact rfl))|((with_reducible apply DT);(focus exact rfl);(focus exact rfl))|((with_reducible apply DU);(focus exact rfl);(focus exact rfl))|((with_reducible apply DV);(focus exact rfl);(focus exact rfl))|((with_reducible apply DW);(focus exact rfl);(focus exact rfl))|((with_reducible apply DX);(focus exact rfl);(focus exact rfl))|((with_reducible apply DL);(focus exact rfl))|((with_reducible apply DJ);(focus exact rfl);(focus ((conv=>lhs;whnf);(first|done|fail))))|((with_reducible apply DK);(focus exact rfl);(focus ((conv=>lhs;whnf);(first|done|fail))))|((with_reducible apply D5);(focus exact rfl);(focus ((conv=>lhs;whnf);(first|done|fail))))|((with_reducible apply D6);(focus exact rfl))|((with_reducible apply D7);(focus exact rfl);(focus ((conv=>lhs;whnf);(first|done|fail))))|((with_reducible apply D8);(focus exact rfl);(focus ((conv=>lhs;whnf);(first|done|fail))))|((with_reducible apply D9);(focus ((conv=>lhs;whnf);(first|done|fail))))|((with_reducible apply Ea);(focus exact rfl))|((with_reducible apply Eb);(focus exact rfl))|((with_reducible apply Ec);(focus exact rfl))|with_reducible exact DN|((with_reducible apply Ed);(focus exact rfl);(focus exact rfl);(focus exact rfl))|((with_reducible apply Er);(focus exact rfl);(focus exact rfl);(focus ((omega);(first|done|fail))))|((with_reducible apply Bp);(focus exact rfl);(focus exact rfl);(focus ((omega);(first|done|fail)));(focus ((omega);(first|done|fail))))|((with_reducible apply Ee);(focus exact rfl);(focus exact rfl);(focus ((omega);(first|done|fail)));(focus ((omega);(first|done|fail))))|((with_reducible apply DY);(focus exact rfl);(focus exact rfl);(focus ((omega);(first|done|fail)));(focus ((omega);(first|done|fail))))|((with_reducible apply DZ);(focus exact rfl);(focus exact rfl);(focus ((omega);(first|done|fail)));(focus ((omega);(first|done|fail))))|((with_reducible apply Eh);(focus exact rfl);(focus exact rfl);(focus ((first|assumption|kernel_rfl);(first|done|fail))))|((with_reducible apply Ei);(focus exact rfl);(focus exact rfl);(focus ((first|assumption|kernel_rfl);(first|done|fail))))|((with_reducible apply Ej);(focus exact rfl);(focus exact rfl))|((with_reducible apply Em);(focus exact rfl);(focus exact rfl))|((with_reducible apply Eo);(focus exact rfl);(focus exact rfl);(focus ((omega);(first|done|fail)));(focus ((omega);(first|done|fail))))) rfl ?_))
 (next:∀y,pr y->R (λh=>ax P ds rest (act n ((d,val y)::l) D pm ro) h K) B w0 (eu y) (F2 y)):
 R (λh=>ax P ds (⟨⟨some d,g,.call f xs⟩,re⟩::rest) (act n l D pm ro) h K) B w0 kl F:=
 Yx hc hn hg hf hx ha hk hF (λy hy=>by rw[(hak y).eq,(Es y).eq];exact hs y hy) (λy hy=>by rw[(hak y).eq,(Es y).eq];exact next y hy)
abbrev ik(P:Program)(f:FuncId)(args:List Value)(F:List aB)(v:Value):Prop:=aT P (.func f) args [] [] F (λ_:Unit=>v) (λ_=>[]) (λ_=>[]) (λ_=>True)
theorem aV{Y:Type}{f:FuncId}{args cap:List Value}{kl:List OA}{F:List aB}{val:Y->Value}{kl':Y->List OA}{fs:Y->List aB}{pr:Y->Prop}{c:bG}{m:Nat}{l0:List (Nat×Value)}(cf:dW)(hF:(oz P nJ oZ).F f=some cf)
 (hb:∀B w0,R (λh=>EV P c (act m l0 [] none none) h (Bg cf (Left B w0 val kl' fs pr))) B w0 kl F)
 (h1:cf.body=c:=by conv=>lhs;(reduce;(try simp only[Int.reduceOfNat,Int.reduceNegSucc]))) (h2:oq cf.ntmps (fZ (args++cap))=m:=by conv=>lhs;whnf) (h3:mQ 0 (args++cap) []=l0:=by dsimp only[mQ,Nat.reduceAdd,List.append_nil,List.cons_append,List.nil_append]):aT P (.func f) args cap kl F val kl' fs pr:=
 Yt cf hF (by rw[h1,h2,h3];exact hb)
theorem eX{α:Type}(E:Enc α){x i:Operand}{v:Value}{xs:List α}{size:Nat}{k:Nat}{kk:IntKind}{F2:α->E.Y->List aB}(hn:Nat.blt d n=true:=by rfl)(hg:aZ l g=true:=by rfl)(hx:ev l x=v:=by conv=>lhs;whnf)(hi:ev l i=.int kk (k:Int):=by rfl)
 (hf:ae E v xs∈F:=by exact mU) (hs:E.n=size:=by rfl) (h1:k<xs.length:=by omega)
 (ha:∀z y,bO (E.fs z y) F (F2 z y):=by intro z y;repeat (first|exact bO.nil|apply bO.cons|exact bO.self|exact bO.app))
 (next:∀b o z y,xs[k]? =some z->R (λh=>ax P ds rest (act n ((d,.pointer (some ⟨b,o,none⟩))::l) D pm ro) h K) B w0 kl (bU b o (E.pat z y)::F2 z y)):
 R (λh=>ax P ds (⟨⟨some d,g,.fE size x i⟩,[]⟩::rest) (act n l D pm ro) h K) B w0 kl F:=
 (IZ hn hg hx hi hf hs (by omega) (by omega)).h λb o z y hz=>by rw[(ha z y).eq];exact next b o z y (by simpa using hz)
theorem aj{Y:Type}{o:Out}{cf:dW}{vs:List Value}{val:Y->Value}{k1:Y->List OA}{fs:Y->List aB}{pr:Y->Prop}(y:Y)
 (hr:RS l kl cf.results vs:=by exact y8) (hv:pQ vs=val y:=by rfl) (hp:pr y)
 (hk:aL (k1 y) kl aW:=by exact nP) (hF:Sub (fs y) F:=by exact mR)
 (ho:o=.normal\/o=.ret:=by first|exact .inl rfl|exact .inr rfl):R (λh=>Bg cf (Left B w0 val k1 fs pr) o (act n l [] none ro) h) B w0 kl F:=
 Yy y hr hv hp hk hF ho
theorem cu{A:OA}{fs F2:List aB}{Q:IH->Prop}(hA:vB A fs)(hk:ah A kl kl':=by exact gp)(ha:bO fs F F2:=by repeat (first|exact bO.nil|apply bO.cons|exact bO.self|exact bO.app))(h:R Q B w0 kl' F2):R Q B w0 kl F:=
 Yq hA hk (by rw[ha.eq];exact h)
theorem dQ{X:Type}{c:bG}{l0:List (Nat×Value)}{L2:X->List (Nat×Value)}{Oa:X->List OA}{Ob:X->List aB}(m:X->Nat)(L:X->List (Nat×Value))(KL:X->List OA)(FF:X->List aB)(inv:X->Prop)(x0:X)(hi:inv x0)
 (h0:tL l (L x0) l0:=by repeat (first|exact tL.nil|(apply tL.drop;(focus exact rfl))|(apply tL.keep;(focus exact rfl)))) (hl:sub (L x0++l0) l:=by repeat (first|exact trivial|refine⟨rfl,?_⟩))
 (hk:aL (KL x0) kl aW:=by exact nP) (hF:Sub (FF x0) F:=by exact mR)
 (hak:∀x,bO (KL x) aW (Oa x):=by intro y;repeat (first|exact bO.nil|apply bO.cons|exact bO.self|exact bO.app)) (Es:∀x,bO (FF x) F (Ob x):=by intro y;repeat (first|exact bO.nil|apply bO.cons|exact bO.self|exact bO.app))
 (hal:∀x,bO (L x) l0 (L2 x):=by intro y;repeat (first|exact bO.nil|apply bO.cons|exact bO.self|exact bO.app))
 (body:∀x,inv x->R (λh=>EV P c (act n (L2 x) D pm ro) h (tK (LI n D pm ro B w0 m L KL FF inv l0 aW F) (m x) K)) B w0 (Oa x) (Ob x)):
 R (λh=>EV P (.loop c) (act n l D pm ro) h K) B w0 kl F:=
 Yz m L KL FF inv x0 hi l0 hl hk hF λx hx=>by rw[(hak x).eq,(Es x).eq,(hal x).eq];exact body x hx
theorem aY{X:Type}{m:X->Nat}{L:X->List (Nat×Value)}{KL:X->List OA}{FF:X->List aB}{inv:X->Prop}{l0:List (Nat×Value)}{Oc eu:List OA}{F0:List aB}{m0:Nat}(x:X)(hm:m x<m0)(hi:inv x)
 (hl:sub (L x++l0) l:=by repeat (first|exact trivial|refine⟨rfl,?_⟩)) (ha:bO (KL x) aW Oc:=by repeat (first|exact bO.nil|apply bO.cons|exact bO.self|exact bO.app))
 (hk:aL Oc kl eu:=by exact nP) (hF:Sub (FF x) F:=by exact mR)
 (wX:iQ F0 F:=by repeat (first|exact iQ.here|apply iQ.cons|apply iQ.app)):
 R (λh=>tK (LI n D pm ro B w0 m L KL FF inv l0 aW F0) m0 K .normal (act n l D pm ro) h) B w0 kl F:=
 YA x hm hi hl (by rw[ha.eq];exact hk) hF wX
end
end Go.Ideal
namespace Go.Ideal
class y9 (e:Bool) (f t:outParam Prop):Prop where
 no:e=false->f
 yes:e=true->t
instance (priority:=low) af0 {e:Bool}:y9 e (e=false) (e=true):=⟨id,id⟩
instance af1 {p:Prop} {_:Decidable p}:y9 (decide p) (¬p) p:=⟨Gj,sN⟩
instance af2 {p:Prop} {_:Decidable p}:y9 (!decide p) p (¬p):=⟨λe=>by simpa using e,λe=>by simpa using e⟩
section
variable {P:Program}
variable {B:List Nat} {w0:Wd} {kl:List OA} {F:List aB} {K:KO} {ds:List Tmp} {rest:List aP} {n:Nat} {l:List (Nat×Value)} {D:List Deferred} {pm:Option FrameMode} {ro:Option Nat} {t1 t2:Nat}
theorem gG{e:Bool}{f t:Prop}[y9 e f t](h1:f->R (λh=>ax P ds rest (act n ((t1,.bool false)::(t2,.bool false)::l) D pm ro) h K) B w0 kl F)(h2:t->R (λh=>ax P ds rest (act n ((t1,.bool true)::(t2,.bool true)::l) D pm ro) h K) B w0 kl F):
 R (λh=>ax P ds rest (act n ((t1,.bool e)::(t2,.bool e)::l) D pm ro) h K) B w0 kl F:=
 YF (λx=>h1 (y9.no x)) (λx=>h2 (y9.yes x))
end
section
instance af3 {n:Nat}:OfNat Operand n:=⟨.tmp n⟩
abbrev kI(n:Int):Operand:=.const (.int .i64 n)
abbrev kT:Operand:=.const (.bool true)
abbrev kF:Operand:=.const (.bool false)
abbrev vI:Value:=.int .i64 0
abbrev vS:Value:=.slice none 0 0
abbrev vE:Value:=.string ⟨⟨[]⟩⟩
abbrev kC(f:Nat)(l:List Operand):ai:=.call (.func f) l
abbrev kS(n:Nat)(e:ai):aP:=⟨⟨some n,none,e⟩,[]⟩
abbrev kG(n c:Nat)(e:ai):aP:=⟨⟨some n,some ⟨c,true⟩,e⟩,[]⟩
abbrev kH(n c:Nat)(e:ai):aP:=⟨⟨some n,some ⟨c,false⟩,e⟩,[]⟩
abbrev kN(e:ai):aP:=⟨⟨none,none,e⟩,[]⟩
abbrev kM(n:Nat)(x:Operand):aP:=kS n (.mv x)
abbrev kO(l:List aP):bG:=.ops (l.filterMap λx=>x.s.dst) l
end
end Go.Ideal
namespace Go.Ideal
noncomputable def Et(L:Lay):Wd:=⟨iH L,λi=>i<(iH L).next,λ_ h=>h⟩
end Go.Ideal
namespace Go.Ideal
open Go.ChangeShapes Go.WideShapes Go.ChangeAt Go.RowKit
variable {P:Program}
def za{α:Type}(P:Program)(t:TypeId)(E:Enc α):Prop:=∀(w:Wd) (H:Type) (d:DataW H) (cs:List Value),(∀i,i<w.h.next->w.z i)->fQ P w.h t cs d->∃a y,cs=E.pat a y/\∀f∈E.fs a y,f.p w
theorem I6{α:Type}{p:Nat->α->Prop}:∀n,(∀k,k<n->∃a,p k a)->∃l:List α,l.length=n/\∀(k:Nat) a,l[k]? =some a->p k a
 |0,_=>⟨[],rfl,λk a h=>by cases h⟩
 |n+1,h=>by
  obtain⟨l,h1,h2⟩:=I6 n (λk hk=>h k (by omega));obtain⟨a,ha⟩:=h n (by omega);refine⟨l++[a],by simp[h1],λk b hb=>?_⟩;by_cases hk:k<l.length
  ·rw[iW hk]at hb;exact h2 k b hb
  ·rw[lN (by omega)]at hb;have hk0:k=n:=by have:=(dU.1 hb).1;simp at this;omega
   subst hk0;rw[h1]at hb;simp at hb;subst hb;exact ha
def Od{α β:Type}(E1:Enc α)(E2:Enc β):Enc (α×β):=⟨E1.n+E2.n,E1.Y×E2.Y,λa y=>E1.pat a.1 y.1++E2.pat a.2 y.2,λa y=>E1.fs a.1 y.1++E2.fs a.2 y.2,λa y=>by rw[dK,E1.len,E2.len]⟩
def Oe:Enc Unit:=⟨0,Unit,λ_ _=>[],λ_ _=>[],λ_ _=>rfl⟩
inductive zb(P:Program):{α:Type}->List Field->Enc α->Prop
 |nil:zb P [] Oe
 |cons {α β:Type} {f:Field} {fs:List Field} {E1:Enc α} {E2:Enc β} (h:za P f.type E1) (hn:P.cellsOf f.type=E1.n) (t:zb P fs E2):zb P (f::fs) (Od E1 E2)
theorem zb.Eu{w:Wd}{H:Type}(hz:∀i,i<w.h.next->w.z i):∀{α:Type} {fs:List Field} {E:Enc α},zb P fs E->∀(o0:Nat) (cs:List Value) (ds:List (DataW H)),cs.length=(fs.map λf=>P.cellsOf f.type).sum->ds.length=fs.length->
 fs.map (·.offset)=sums o0 (fs.map λf=>P.cellsOf f.type)->(∀(j:Nat) f d,fs[j]? =some f->ds[j]? =some d->fQ P w.h f.type ((cs.drop (f.offset - o0)).take (P.cellsOf f.type)) d)->∃a y,cs=E.pat a y/\∀f∈E.fs a y,f.p w
 |_,_,_,.nil,o0,cs,ds,h1,h2,h3,h4=>⟨(),(),qc.1 (by simpa using h1),λf hf=>by cases hf⟩
 |_,_,_,.cons (f:=f) (fs:=fs) (E1:=E1) (E2:=E2) h hn t,o0,cs,ds,h1,h2,h3,h4=>by
  match ds,h2 with
  |d::ds,h2=>
   simp only[lc,List.sum_cons,sums,xS]at h1 h3;obtain⟨ho,h3⟩:=h3;have r0:=h4 0 f d rfl rfl;rw[ho,uE,qi]at r0;obtain⟨a,y,q1,q2⟩:=h w H d _ hz r0;obtain⟨b,z,u1,u2⟩:=zb.Eu hz t (o0+P.cellsOf f.type) (cs.drop (P.cellsOf f.type)) ds (by rw[iY];omega) (by simpa using h2) h3 (λj g e hg he=>by
    have:=h4 (j+1) g e hg he;rw[List.drop_drop];have hle:o0+P.cellsOf f.type<=g.offset:=by
     have hj:(fs.map (·.offset))[j]? =some g.offset:=by rw[cK,hg];rfl
     rw[h3]at hj;have hs:(fs.map λf=>P.cellsOf f.type)[j]? =some (P.cellsOf g.type):=by rw[cK,hg];rfl
     exact(u6 _ ([]:List Value) (o0+P.cellsOf f.type) j _ _ hj hs).2
    rw[show P.cellsOf f.type+(g.offset - (o0+P.cellsOf f.type))=g.offset - o0 by omega];exact this)
   refine⟨(a,b),(y,z),?_,?_⟩
   ·show cs=E1.pat a y++E2.pat b z;rw[<- q1,<- u1,xU]
   ·intro g hg;rcases fI.1 hg with hg|hg
    ·exact q2 g hg
    ·exact u2 g hg
theorem za.conv{α β:Type}{t:TypeId}{E:Enc α}{E':Enc β}(h:za P t E)(hc:∀a y,∃b z,E.pat a y=E'.pat b z/\E.fs a y=E'.fs b z):za P t E':=λw H d cs hz r=>by
 obtain⟨a,y,q1,q2⟩:=h w H d cs hz r;obtain⟨b,z,e1,e2⟩:=hc a y;exact⟨b,z,by rw[q1,e1],λf hf=>q2 f (by rw[e2];exact hf)⟩
section
variable {H:Type} {enc:TypeId×Value->H} {W:World} {K:TypeId->Prop}
def rX(P:Program)(w:Wd)(t:TypeId)(v:Value){H:Type}(d:DataW H):Prop:=∃cs,fQ P w.h t cs d/\((gI P t=true/\v=.agg ⟨cs⟩)\/(gI P t=false/\cs=[v]))
theorem rX.agg{α:Type}{w:Wd}{t:TypeId}{v:Value}{d:DataW H}{E:Enc α}(h:rX P w t v d)(hz:∀i,i<w.h.next->w.z i)(ha:gI P t=true)(hr:za P t E):∃a y,v=.agg ⟨E.pat a y⟩/\∀f∈E.fs a y,f.p w:=by
 obtain⟨cs,r,⟨_,e⟩|⟨e,_⟩⟩:=h
 ·obtain⟨a,y,rfl,q⟩:=hr w H d cs hz r;exact⟨a,y,e,q⟩
 ·rw[ha]at e;cases e
theorem rX.one{α:Type}{w:Wd}{t:TypeId}{v:Value}{d:DataW H}{E:Enc α}(h:rX P w t v d)(hz:∀i,i<w.h.next->w.z i)(ha:gI P t=false)(hr:za P t E):∃a y,E.pat a y=[v]/\∀f∈E.fs a y,f.p w:=by
 obtain⟨cs,r,⟨e,_⟩|⟨_,e⟩⟩:=h
 ·rw[ha]at e;cases e
 ·obtain⟨a,y,q0,q⟩:=hr w H d cs hz r;exact⟨a,y,by rw[<- q0,e],q⟩
theorem YJ{L:Lay}{t:TypeId}{v v0:Value}{d:DataW H}{w:Wd}(hw:w.h=iH L)(r:vk P (iH L) t v d)(hv:VR (ig L) v v0)(hok:Value.okWide P W .any 0 t v0):rX P w t v d:=by
 obtain⟨cs,r1,h2,h3⟩:=r;refine⟨cs,by rw[hw];exact r1,?_⟩;cases ha:gI P t with
 |true=>
  left;refine⟨rfl,?_⟩;rcases h3 with e|e
  ·subst e;have hagg:∃c,v0=.agg c:=by
    unfold gI at ha;unfold Value.okWide at hok;split at ha
    ·rename_i fs hu;rw[hu]at hok;obtain⟨c,e,_⟩:=hok;exact⟨c,e⟩
    ·rename_i n e hu;rw[hu]at hok;obtain⟨c,e,_⟩:=hok;exact⟨c,e⟩
    ·cases ha
   obtain⟨c,rfl⟩:=hagg
   exfalso
   cases hv<;>simp[cellV]at h2
  ·exact e
 |false=>
  right;refine⟨rfl,?_⟩;rcases h3 with e|e
  ·exact e
  ·subst e
   exfalso
   cases hv with
   |agg hc hl=>
    cases hu:P.underlying t with
    |none=>simp[Value.okWide,Cell.okWide,Cell.ok,hu]at hok
    |some d=>cases d<;>simp[Value.okWide,Cell.okWide,Cell.ok,gI,hu]at hok ha
theorem YK{ts:List TypeId}{vs' vs:List Value}{L:Lay}(hv:aD (ig L) vs' vs):∀(j:Nat) v',vs'[j]? =some v'->∃v,vs[j]? =some v/\VR (ig L) v' v:=by
 intro j;induction j generalizing vs' vs with
 |zero=>
  intro v' h;cases hv with
  |nil=>cases h
  |cons h1 h2=>cases h;exact⟨_,rfl,h1⟩
 |succ j ih=>
  intro v' h;cases hv with
  |nil=>cases h
  |cons h1 h2=>exact ih h2 v' h
theorem Og{a:Nat}{b:Nat->Bool}{c:Bool}:∀{ts:List TypeId} {vs:List Value} {ds:List (DataW H)} {ps:List MemPlace},DataW.TrodAll enc P W a b c ts vs ds ps->vs.length=ts.length/\ds.length=ts.length
 |[],[],[],_,_=>⟨rfl,rfl⟩
 |_::_,_::_,_::_,_,⟨_,_,_,h,_⟩=>by
  have:=Og h;simp[this.1,this.2]
end
