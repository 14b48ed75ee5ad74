/-
  The ideal machine, 53: the road through what needs no thought; lists put in order.
-/
import Derived.Test.YtjmgkllpcidhjaaGreatDoorIdealJN
import Derived.Test.YtjmgkllpcidhjaaGreatDoorIdealIN
set_option linter.all false
namespace Go.Ideal
theorem pY{p:Prop}(h:p:=by repeat (first|exact Sub.nil|(apply Sub.cons;(focus ((repeat (first|with_reducible exact bz .. |with_reducible apply dh));first|done|fail)))|exact jc.sub (by repeat (first|with_reducible exact jc.here|with_reducible apply jc.cons|with_reducible apply jc.app)))):p:=h
theorem qJ{p:Prop}(h:p:=by repeat (first|exact aM.nil|(apply aM.cons;(focus (repeat (first|with_reducible exact ai.here|with_reducible apply ai.there|with_reducible apply ai.app))))|with_reducible exact aM.all _|with_reducible exact aM.self _ _|with_reducible apply aM.there)):p:=h
theorem fM{p:Prop}(h:p:=by repeat (first|with_reducible exact ai.here|with_reducible apply ai.there|with_reducible apply ai.app)):p:=h
theorem CW{p:Prop}(h:p:=by repeat (first|exact RS.nil|(apply RS.tmp;(conv=>lhs;whnf))|(apply RS.cell1;(focus exact rfl);(focus (repeat (first|with_reducible exact ai.here|with_reducible apply ai.there|with_reducible apply ai.app)));(conv=>lhs;whnf))|(apply RS.xI;(focus exact rfl);(focus (repeat (first|with_reducible exact ai.here|with_reducible apply ai.there|with_reducible apply ai.app)));(conv=>lhs;whnf)))):p:=h
theorem oF{p:Prop}(h:p:=by(repeat (first|with_reducible exact bz .. |with_reducible apply dh));first|done|fail):p:=h
variable {P:Program}
section
variable {B:List Nat} {w0:Wd} {kl:List OA} {F:List aK} {K:KO} {ds:List Tmp} {rest:List aY} {n:Nat} {l:List (Nat×Value)} {D:List Deferred} {pm:Option FrameMode} {ro:Option Nat} {d:Nat} {g:Option (Tmp×Bool)}
theorem aaR{x i:Operand}{v:Value}{xs:List Int}{k:Nat}{kk:IntKind}(hn:Nat.blt d n=true)(hg:bH l g=true)(hx:ev l x=v)(hi:ev l i=.int kk (k:Int))(hf:ah ae v xs∈F)(h1:k<xs.length):
 bT (R (λh=>aB P ds (⟨⟨some d,g,.fB 1 x i⟩,[]⟩::rest) (act n l D pm ro) h K) B w0 kl F)
  (∀b o z,xs[k]? =some z->R (λh=>aB P ds rest (act n ((d,.pointer (some ⟨b,o,none⟩))::l) D pm ro) h K) B w0 kl (dG b o [.int .i64 z]::F)):=
 ⟨λr=>(Qb hn hg hx hi hf (by omega) (by omega)).h λb o z hz=>r b o z (by simpa using hz)⟩
theorem aaS{x i:Operand}{v:Value}{xs:List Bool}{k:Nat}{kk:IntKind}(hn:Nat.blt d n=true)(hg:bH l g=true)(hx:ev l x=v)(hi:ev l i=.int kk (k:Int))(hf:ah Fy v xs∈F)(h1:k<xs.length):
 bT (R (λh=>aB P ds (⟨⟨some d,g,.fB 1 x i⟩,[]⟩::rest) (act n l D pm ro) h K) B w0 kl F)
  (∀b o z,xs[k]? =some z->R (λh=>aB P ds rest (act n ((d,.pointer (some ⟨b,o,none⟩))::l) D pm ro) h K) B w0 kl (dG b o [.bool z]::F)):=
 ⟨λr=>(Qc hn hg hx hi hf (by omega) (by omega)).h λb o z hz=>r b o z (by simpa using hz)⟩
end
inductive Fill(ρ:Operand->Value):List Value->List (Nat×Nat×Operand)->List Value->Prop
 |nil {cs:List Value}:Fill ρ cs [] cs
 |cons {cs vs cs' r:List Value} {off size:Nat} {x:Operand} {parts:List (Nat×Nat×Operand)} {v:Value} (h0:ρ x=v) (h1:cellsOf v=some vs) (h2:Nat.beq (gB vs) size=true) (h3:fU cs off vs=some cs') (t:Fill ρ cs' parts r):Fill ρ cs ((off,size,x)::parts) r
theorem Fill.eq{ρ:Operand->Value}:∀{zero:List Value} {parts:List (Nat×Nat×Operand)} {cs:List Value},Fill ρ zero parts cs->pK ρ zero parts=some cs
 |_,_,_,.nil=>rfl
 |cs0,_,_,.cons (off:=off) (size:=size) (x:=x) (parts:=parts) h0 h1 h2 h3 t=>by
  have ih:=t.eq;show(match cellsOf (ρ x)with
   |none=>none
   |some vs=>cond (Nat.beq (gB vs) size) (match fU cs0 off vs with
    |some cs=>pK ρ cs parts
    |none=>none) none)=_
  simp only[h0,h1,h2,h3,cond,ih]
theorem aaT{B:List Nat}{w0:Wd}{kl:List OA}{F:List aK}{K:KO}{ds:List Tmp}{rest:List aY}{n:Nat}{l:List (Nat×Value)}{D:List Deferred}{pm:Option FrameMode}{ro:Option Nat}{d:Nat}{g:Option (Tmp×Bool)}
 {t:TypeId} {len:Nat} {zero cs:List Value} {parts:List (Nat×Nat×Operand)} (hn:Nat.blt d n=true) (hg:bH l g=true) (hx:Fill (ev l) zero parts cs):
 bT (R (λh=>aB P ds (⟨⟨some d,g,.dY t len zero parts⟩,[]⟩::rest) (act n l D pm ro) h K) B w0 kl F)
 (∀b,R (λh=>aB P ds rest (act n ((d,.slice (some ⟨b,0,some 0⟩) len len)::l) D pm ro) h K) B w0 (pt b (.cells cs)::kl) F):=aav hn hg hx.eq
theorem aaU{B:List Nat}{w0:Wd}{kl:List OA}{F:List aK}{K:KO}{ds:List Tmp}{rest:List aY}{n:Nat}{l:List (Nat×Value)}{D:List Deferred}{pm:Option FrameMode}{ro:Option Nat}{d:Nat}{g:Option (Tmp×Bool)}
 {zero cs:List Value} {parts:List (Nat×Nat×Operand)} (hn:Nat.blt d n=true) (hg:bH l g=true) (hx:Fill (ev l) zero parts cs):
 bT (R (λh=>aB P ds (⟨⟨some d,g,.build zero parts⟩,[]⟩::rest) (act n l D pm ro) h K) B w0 kl F) (R (λh=>aB P ds rest (act n ((d,.agg ⟨cs⟩)::l) D pm ro) h K) B w0 kl F):=bO hn hg (Z0 hx.eq)
theorem gH{B:List Nat}{w0:Wd}{kl:List OA}{F:List aK}{α:Type}{E:Enc α}{v:Value}{xs:List α}{Q:IH->Prop}(hf:ah E v xs∈F)(h:∀a c,v=.slice a xs.length c->R Q B w0 kl F):R Q B w0 kl F:=λw s=>by
 obtain⟨a,c,e⟩:=P9 (s.facts _ hf);exact h a c e w s
section
variable {B:List Nat} {w0:Wd} {kl:List OA} {F:List aK} {K:KO} {ds:List Tmp} {rest:List aY} {n:Nat} {l:List (Nat×Value)} {D:List Deferred} {pm:Option FrameMode} {ro:Option Nat} {t1 t2:Nat}
theorem g_b{e:Bool}(h1:e=false->R (λh=>aB P ds rest (act n ((t1,.bool false)::(t2,.bool false)::l) D pm ro) h K) B w0 kl F)(h2:e=true->R (λh=>aB P ds rest (act n ((t1,.bool true)::(t2,.bool true)::l) D pm ro) h K) B w0 kl F):
 R (λh=>aB P ds rest (act n ((t1,.bool e)::(t2,.bool e)::l) D pm ro) h K) B w0 kl F:=by
 cases e
 ·exact h1 rfl
 ·exact h2 rfl
end
section
variable {B:List Nat} {w0:Wd} {kl kl':List OA} {F:List aK} {K:KO} {ds:List Tmp} {rest:List aY} {n:Nat} {l:List (Nat×Value)} {D:List Deferred} {pm:Option FrameMode} {ro:Option Nat} {d:Nat} {g:Option (Tmp×Bool)}
theorem aaW{x:Operand}{t:TypeId}{v:Value}{cs:List Value}(hn:Nat.blt d n=true)(hg:bH l g=true)(hv:ev l x=v)(hx:cellsOf v=some cs):bT (R (λh=>aB P ds (⟨⟨some d,g,.box x t⟩,[]⟩::rest) (act n l D pm ro) h K) B w0 kl F)
 (∀b,R (λh=>aB P ds rest (act n ((d,.pointer (some ⟨b,0,none⟩))::l) D pm ro) h K) B w0 (pt b (.cells cs)::kl) F):=aau hn hg (by rw[hv];exact hx)
theorem aaX{x y:Operand}{b o m:Nat}{cs vs c:List Value}{v:Value}(hg:bH l g=true)(hx:ev l x=.pointer (some ⟨b,o,none⟩))(hw:ev l y=v)(hy:cellsOf v=some vs)(hm:Nat.beq (gB vs) m=true)
 (hk:ai (pt b (.cells cs)) kl kl') (hv:fU cs o vs=some c):
 bT (R (λh=>aB P ds (⟨⟨none,g,.store m x y⟩,[]⟩::rest) (act n l D pm ro) h K) B w0 kl F) (R (λh=>aB P ds rest (act n l D pm ro) h K) B w0 (pt b (.cells c)::kl') F):=FI hg hx (by rw[hw];exact hy) hm hk hv
end
theorem aaY{B:List Nat}{w0:Wd}{kl:List OA}{F:List aK}{K:KO}{ds:List Tmp}{rest:List aY}{n:Nat}{l:List (Nat×Value)}{D:List Deferred}{pm:Option FrameMode}{ro:Option Nat}{d:Nat}{g:Option (Tmp×Bool)}
 {fn:Fn} {first captured:List Operand} {a b:List Value} (hn:Nat.blt d n=true) (hg:bH l g=true) (h1:EvL (ev l) first a) (h2:EvL (ev l) captured b):
 bT (R (λh=>aB P ds (⟨⟨some d,g,.Bv fn first captured⟩,[]⟩::rest) (act n l D pm ro) h K) B w0 kl F) (R (λh=>aB P ds rest (act n ((d,.func fn ⟨a⟩ ⟨b⟩)::l) D pm ro) h K) B w0 kl F):=bO hn hg (Z4 h1 h2)
theorem go{G G':Prop}(x:G')(r:bT G G':=by
 repeat (first
  |((with_reducible apply bT.trans);first
   |with_reducible exact Z5
   |with_reducible exact Z6
   |with_reducible exact Z7
   |with_reducible exact Z8
   |with_reducible exact Z9
   |with_reducible exact aaa
   |with_reducible exact aab
   |with_reducible exact aac
   |with_reducible exact aad
   |with_reducible exact aae
   |with_reducible exact aaf
   |with_reducible exact aag
   |with_reducible exact aah
   |with_reducible exact aai
   |with_reducible exact aaj
   |with_reducible exact aam
   |with_reducible exact aan
   |with_reducible exact aao
   |((with_reducible apply aak);exact rfl)
   |((with_reducible apply aal);exact rfl)
   |((with_reducible apply aap);(focus exact rfl))
   |((with_reducible apply aaq);(focus exact rfl))
   |((with_reducible apply aar);(focus exact rfl);(focus exact rfl))
   |((with_reducible apply aaR);(focus exact rfl);(focus exact rfl);(focus ((conv=>lhs;whnf);(first|done|fail)));(focus exact rfl);(focus (((repeat (first|with_reducible exact bz .. |with_reducible apply dh));first|done|fail);(first|done|fail)));(focus ((omega);(first|done|fail))))
   |((with_reducible apply aaS);(focus exact rfl);(focus exact rfl);(focus ((conv=>lhs;whnf);(first|done|fail)));(focus exact rfl);(focus (((repeat (first|with_reducible exact bz .. |with_reducible apply dh));first|done|fail);(first|done|fail)));(focus ((omega);(first|done|fail))))
   |((with_reducible apply Qb);(focus exact rfl);(focus exact rfl);(focus ((conv=>lhs;whnf);(first|done|fail)));(focus exact rfl);(focus (((repeat (first|with_reducible exact bz .. |with_reducible apply dh));first|done|fail);(first|done|fail)));(focus ((omega);(first|done|fail)));(focus ((omega);(first|done|fail))))
   |((with_reducible apply Qc);(focus exact rfl);(focus exact rfl);(focus ((conv=>lhs;whnf);(first|done|fail)));(focus exact rfl);(focus (((repeat (first|with_reducible exact bz .. |with_reducible apply dh));first|done|fail);(first|done|fail)));(focus ((omega);(first|done|fail)));(focus ((omega);(first|done|fail))))
   |((with_reducible apply bO);(focus exact rfl);(focus exact rfl);(focus ((first|((with_reducible apply Kc);(focus ((conv=>lhs;whnf);(first|done|fail))))|((with_reducible apply FB);(focus ((conv=>lhs;whnf);(first|done|fail))))|((with_reducible apply FC);(focus exact rfl))|((with_reducible apply Kj);(focus exact rfl);(focus exact rfl))|((with_reducible apply Kk);(focus exact rfl);(focus exact rfl))|((with_reducible apply Kl);(focus exact rfl);(focus exact rfl))|((with_reducible apply Km);(focus exact rfl);(focus exact rfl))|((with_reducible apply Kn);(focus exact rfl);(focus exact rfl))|((with_reducible apply Ko);(focus exact rfl);(focus exact rfl))|((with_reducible apply Kh);(focus exact rfl))|((with_reducible apply Ke);(focus exact rfl);(focus ((conv=>lhs;whnf);(first|done|fail))))|((with_reducible apply Kg);(focus exact rfl);(focus ((conv=>lhs;whnf);(first|done|fail))))|((with_reducible apply Ku);(focus exact rfl);(focus ((conv=>lhs;whnf);(first|done|fail))))|((with_reducible apply Kv);(focus exact rfl))|((with_reducible apply Kw);(focus exact rfl);(focus ((conv=>lhs;whnf);(first|done|fail))))|((with_reducible apply Ky);(focus exact rfl);(focus ((conv=>lhs;whnf);(first|done|fail))))|((with_reducible apply Kz);(focus ((conv=>lhs;whnf);(first|done|fail))))|((with_reducible apply KA);(focus exact rfl))|((with_reducible apply KC);(focus exact rfl))|((with_reducible apply KD);(focus exact rfl))|with_reducible exact Ki|((with_reducible apply KE);(focus exact rfl);(focus exact rfl);(focus exact rfl))|((with_reducible apply KS);(focus exact rfl);(focus exact rfl);(focus ((omega);(first|done|fail))))|((with_reducible apply FD);(focus exact rfl);(focus exact rfl);(focus ((omega);(first|done|fail)));(focus ((omega);(first|done|fail))))|((with_reducible apply KF);(focus exact rfl);(focus exact rfl);(focus ((omega);(first|done|fail)));(focus ((omega);(first|done|fail))))|((with_reducible apply Kq);(focus exact rfl);(focus exact rfl);(focus ((omega);(first|done|fail)));(focus ((omega);(first|done|fail))))|((with_reducible apply Kt);(focus exact rfl);(focus exact rfl);(focus ((omega);(first|done|fail)));(focus ((omega);(first|done|fail))))|((with_reducible apply KI);(focus exact rfl);(focus exact rfl);(focus ((first|assumption|kernel_rfl);(first|done|fail))))|((with_reducible apply KJ);(focus exact rfl);(focus exact rfl);(focus ((first|assumption|kernel_rfl);(first|done|fail))))|((with_reducible apply KN);(focus exact rfl);(focus exact rfl))|((with_reducible apply KP);(focus exact rfl);(focus exact rfl))|((with_reducible apply KQ);(focus exact rfl);(focus exact rfl);(focus ((omega);(first|done|fail)));(focus ((omega);(first|done|fail)))));(first|done|fail))))
   |((with_reducible apply aaY);(focus exact rfl);(focus exact rfl);(focus (repeat (first|with_reducible exact EvL.nil|((with_reducible apply EvL.cons);(conv=>lhs;whnf)))));(focus (repeat (first|with_reducible exact EvL.nil|((with_reducible apply EvL.cons);(conv=>lhs;whnf))))))
   |((with_reducible apply aaT);(focus exact rfl);(focus exact rfl);(focus (repeat (first|with_reducible exact Fill.nil|((with_reducible apply Fill.cons);(conv=>lhs;whnf);(conv=>lhs;whnf);(focus exact rfl);(conv=>lhs;whnf))))))
   |((with_reducible apply aaU);(focus exact rfl);(focus exact rfl);(focus (repeat (first|with_reducible exact Fill.nil|((with_reducible apply Fill.cons);(conv=>lhs;whnf);(conv=>lhs;whnf);(focus exact rfl);(conv=>lhs;whnf))))))
   |((with_reducible apply aaW);(focus exact rfl);(focus exact rfl);(focus ((conv=>lhs;whnf);(first|done|fail)));(focus ((conv=>lhs;whnf);(first|done|fail))))
   |((with_reducible apply aat);(focus exact rfl);(focus exact rfl))
   |((with_reducible apply aax);(focus exact rfl);(focus exact rfl);(focus exact rfl);(focus ((repeat (first|with_reducible exact ai.here|with_reducible apply ai.there|with_reducible apply ai.app));(first|done|fail)));(focus ((conv=>lhs;whnf);(first|done|fail))))
   |((with_reducible apply P8);(focus exact rfl);(focus exact rfl);(focus exact rfl);(focus ((repeat (first|with_reducible exact ai.here|with_reducible apply ai.there|with_reducible apply ai.app));(first|done|fail)));(focus ((conv=>lhs;whnf);(first|done|fail))))
   |((with_reducible apply aay);(focus exact rfl);(focus exact rfl);(focus exact rfl);(focus (((repeat (first|with_reducible exact bz .. |with_reducible apply dh));first|done|fail);(first|done|fail)));(focus ((conv=>lhs;whnf);(first|done|fail))))
   |((with_reducible apply rO);(focus exact rfl);(focus exact rfl);(focus exact rfl);(focus (((repeat (first|with_reducible exact bz .. |with_reducible apply dh));first|done|fail);(first|done|fail)));(focus ((conv=>lhs;whnf);(first|done|fail))))
   |((with_reducible apply aaz);(focus exact rfl);(focus exact rfl);(focus exact rfl);(focus (((repeat (first|with_reducible exact bz .. |with_reducible apply dh));first|done|fail);(first|done|fail)));(focus ((conv=>lhs;whnf);(first|done|fail))))
   |((with_reducible apply aaA);(focus exact rfl);(focus exact rfl);(focus exact rfl);(focus (((repeat (first|with_reducible exact bz .. |with_reducible apply dh));first|done|fail);(first|done|fail)));(focus ((conv=>lhs;whnf);(first|done|fail))))
   |((with_reducible apply aaX);(focus exact rfl);(focus exact rfl);(focus ((conv=>lhs;whnf);(first|done|fail)));(focus ((conv=>lhs;whnf);(first|done|fail)));(focus exact rfl);(focus ((repeat (first|with_reducible exact ai.here|with_reducible apply ai.there|with_reducible apply ai.app));(first|done|fail)));(focus ((conv=>lhs;whnf);(first|done|fail))))
   |((with_reducible apply aaE);(focus exact rfl);(focus exact rfl);(focus ((conv=>lhs;whnf);(first|done|fail)));(focus (((repeat (first|with_reducible exact bz .. |with_reducible apply dh));first|done|fail);(first|done|fail))))
   |((with_reducible apply aaF);(focus exact rfl);(focus exact rfl);(focus ((conv=>lhs;whnf);(first|done|fail)));(focus ((repeat (first|with_reducible exact ai.here|with_reducible apply ai.there|with_reducible apply ai.app));(first|done|fail))))
   |((with_reducible apply aaM (re:=_::_));(focus exact rfl);(focus exact rfl);(focus ((first|((with_reducible apply Kc);(focus ((conv=>lhs;whnf);(first|done|fail))))|((with_reducible apply FB);(focus ((conv=>lhs;whnf);(first|done|fail))))|((with_reducible apply FC);(focus exact rfl))|((with_reducible apply Kj);(focus exact rfl);(focus exact rfl))|((with_reducible apply Kk);(focus exact rfl);(focus exact rfl))|((with_reducible apply Kl);(focus exact rfl);(focus exact rfl))|((with_reducible apply Km);(focus exact rfl);(focus exact rfl))|((with_reducible apply Kn);(focus exact rfl);(focus exact rfl))|((with_reducible apply Ko);(focus exact rfl);(focus exact rfl))|((with_reducible apply Kh);(focus exact rfl))|((with_reducible apply Ke);(focus exact rfl);(focus ((conv=>lhs;whnf);(first|done|fail))))|((with_reducible apply Kg);(focus exact rfl);(focus ((conv=>lhs;whnf);(first|done|fail))))|((with_reducible apply Ku);(focus exact rfl);(focus ((conv=>lhs;whnf);(first|done|fail))))|((with_reducible apply Kv);(focus exact rfl))|((with_reducible apply Kw);(focus exact rfl);(focus ((conv=>lhs;whnf);(first|done|fail))))|((with_reducible apply Ky);(focus exact rfl);(focus ((conv=>lhs;whnf);(first|done|fail))))|((with_reducible apply Kz);(focus ((conv=>lhs;whnf);(first|done|fail))))|((with_reducible apply KA);(focus exact rfl))|((with_reducible apply KC);(focus exact rfl))|((with_reducible apply KD);(focus exact rfl))|with_reducible exact Ki|((with_reducible apply KE);(focus exact rfl);(focus exact rfl);(focus exact rfl))|((with_reducible apply KS);(focus exact rfl);(focus exact rfl);(focus ((omega);(first|done|fail))))|((with_reducible apply FD);(focus exact rfl);(focus exact rfl);(focus ((omega);(first|done|fail)));(focus ((omega);(first|done|fail))))|((with_reducible apply KF);(focus exact rfl);(focus exact rfl);(focus ((omega);(first|done|fail)));(focus ((omega);(first|done|fail))))|((with_reducible apply Kq);(focus exact rfl);(focus exact rfl);(focus ((omega);(first|done|fail)));(focus ((omega);(first|done|fail))))|((with_reducible apply Kt);(focus exact rfl);(focus exact rfl);(focus ((omega);(first|done|fail)));(focus ((omega);(first|done|fail))))|((with_reducible apply KI);(focus exact rfl);(focus exact rfl);(focus ((first|assumption|kernel_rfl);(first|done|fail))))|((with_reducible apply KJ);(focus exact rfl);(focus exact rfl);(focus ((first|assumption|kernel_rfl);(first|done|fail))))|((with_reducible apply KN);(focus exact rfl);(focus exact rfl))|((with_reducible apply KP);(focus exact rfl);(focus exact rfl))|((with_reducible apply KQ);(focus exact rfl);(focus exact rfl);(focus ((omega);(first|done|fail)));(focus ((omega);(first|done|fail)))));(first|done|fail)));(focus ((repeat (first|exact rQ|refine qI rfl (by repeat (first|with_reducible exact ai.here|with_reducible apply ai.there|with_reducible apply ai.app)) (by first|exact rfl|(conv=>lhs;whnf)) rfl ?_|refine CQ rfl (by(repeat (first|with_reducible exact bz .. |with_reducible apply dh));first|done|fail) (by first|exact rfl|(conv=>lhs;whnf)) rfl ?_|refine CR rfl (by(repeat (first|with_reducible exact bz .. |with_reducible apply dh));first|done|fail) (by first|exact rfl|(conv=>lhs;whnf)) rfl ?_|refine CS rfl (by repeat (first|with_reducible exact ai.here|with_reducible apply ai.there|with_reducible apply ai.app)) (by first|exact rfl|(conv=>lhs;whnf)) rfl ?_|refine CU rfl (by(repeat (first|with_reducible exact bz .. |with_reducible apply dh));first|done|fail) (by first|exact rfl|(conv=>lhs;whnf)) rfl ?_|refine CV rfl (by(repeat (first|with_reducible exact bz .. |with_reducible apply dh));first|done|fail) (by first|exact rfl|(conv=>lhs;whnf)) rfl ?_));(first|done|fail))))
   |((with_reducible apply Qg (re:=_::_));(focus exact rfl);(focus exact rfl);(focus ((conv=>lhs;whnf);(first|done|fail)));(focus ((conv=>lhs;whnf);(first|done|fail)));(focus exact rfl);(focus ((repeat (first|with_reducible exact ai.here|with_reducible apply ai.there|with_reducible apply ai.app));(first|done|fail)));(focus ((conv=>lhs;whnf);(first|done|fail)));(focus ((repeat (first|exact rQ|refine qI rfl (by repeat (first|with_reducible exact ai.here|with_reducible apply ai.there|with_reducible apply ai.app)) (by first|exact rfl|(conv=>lhs;whnf)) rfl ?_|refine CQ rfl (by(repeat (first|with_reducible exact bz .. |with_reducible apply dh));first|done|fail) (by first|exact rfl|(conv=>lhs;whnf)) rfl ?_|refine CR rfl (by(repeat (first|with_reducible exact bz .. |with_reducible apply dh));first|done|fail) (by first|exact rfl|(conv=>lhs;whnf)) rfl ?_|refine CS rfl (by repeat (first|with_reducible exact ai.here|with_reducible apply ai.there|with_reducible apply ai.app)) (by first|exact rfl|(conv=>lhs;whnf)) rfl ?_|refine CU rfl (by(repeat (first|with_reducible exact bz .. |with_reducible apply dh));first|done|fail) (by first|exact rfl|(conv=>lhs;whnf)) rfl ?_|refine CV rfl (by(repeat (first|with_reducible exact bz .. |with_reducible apply dh));first|done|fail) (by first|exact rfl|(conv=>lhs;whnf)) rfl ?_));(first|done|fail))))
   |fail)
  |((with_reducible apply bT.all);intro _)
  |with_reducible apply bT.imp)
 with_reducible exact bT.refl _):G:=r.h x
theorem jc.sub{α:Type}{F0:List α}:∀{F:List α},jc F0 F->Sub F0 F:=λ{F} h=>by
 have:∀k:List α,(∀x∈k,x∈F)->Sub k F:=by
  intro k;induction k with
  |nil=>intro _;exact .nil
  |cons a k ih=>intro hk;exact .cons (hk a (bz ..)) (ih λx hx=>hk x (dh _ hx))
 exact this F0 h.mem
inductive bZ{α:Type}:List α->List α->List α->Prop
 |nil {l:List α}:bZ [] l l
 |cons {a:α} {k l m:List α} (h:bZ k l m):bZ (a::k) l (a::m)
 |self {k:List α}:bZ k [] k
 |app {k l:List α}:bZ k l (k++l)
theorem bZ.eq{α:Type}:∀{k l m:List α},bZ k l m->k++l=m
 |_,_,_,.nil=>rfl
 |_,_,_,.self=>gQ _
 |_,_,_,.app=>rfl
 |_,_,_,.cons h=>by rw[pG,h.eq]
section
variable {B:List Nat} {w0:Wd} {kl kl' bK:List OA} {F:List aK} {K:KO} {ds:List Tmp} {rest:List aY} {n:Nat} {l:List (Nat×Value)} {D:List Deferred} {pm:Option FrameMode} {ro:Option Nat} {d:Nat} {g:Option (Tmp×Bool)}
theorem aD{Y:Type}{f:Operand}{xs:List Operand}{re:List fC}{fn:Fn}{first captured vs as:List Value}{k1:List OA}{F1:List aK}{val:Y->Value}{k1':Y->List OA}{fs:Y->List aK}{pr:Y->Prop}{fF:Y->List OA}{F2:Y->List aK}
 (hc:bD P fn as captured k1 F1 val k1' fs pr) (hn:Nat.blt d n=true:=by rfl) (hg:bH l g=true:=by rfl) (hf:ev l f=.func fn ⟨first⟩ ⟨captured⟩:=by rfl) (hx:EvL (ev l) xs vs:=by repeat (first|with_reducible exact EvL.nil|((with_reducible apply EvL.cons);(conv=>lhs;whnf)))) (ha:first++vs=as:=by rfl)
 (hk:aM k1 kl bK:=by exact qJ) (hF:Sub F1 F:=by exact pY)
 (hak:∀y,bZ (k1' y) bK (fF y):=by intro y;repeat (first|exact bZ.nil|apply bZ.cons|exact bZ.self|exact bZ.app)) (FK:∀y,bZ (fs y) F (F2 y):=by intro y;repeat (first|exact bZ.nil|apply bZ.cons|exact bZ.self|exact bZ.app))
 (hs:∀y,pr y->Same P re (ev ((d,val y)::l)) ((d,val y)::l) B w0 (fF y) (F2 y):=by intro _ _;repeat (first|exact rQ|refine qI rfl (by repeat (first|with_reducible exact ai.here|with_reducible apply ai.there|with_reducible apply ai.app)) (by first|exact rfl|(conv=>lhs;whnf)) rfl ?_|refine CQ rfl (by(repeat (first|with_reducible exact bz .. |with_reducible apply dh));first|done|fail) (by first|exact rfl|(conv=>lhs;whnf)) rfl ?_|refine CR rfl (by(repeat (first|with_reducible exact bz .. |with_reducible apply dh));first|done|fail) (by first|exact rfl|(conv=>lhs;whnf)) rfl ?_|refine CS rfl (by repeat (first|with_reducible exact ai.here|with_reducible apply ai.there|with_reducible apply ai.app)) (by first|exact rfl|(conv=>lhs;whnf)) rfl ?_|refine CU rfl (by(repeat (first|with_reducible exact bz .. |with_reducible apply dh));first|done|fail) (by first|exact rfl|(conv=>lhs;whnf)) rfl ?_|refine CV rfl (by(repeat (first|with_reducible exact bz .. |with_reducible apply dh));first|done|fail) (by first|exact rfl|(conv=>lhs;whnf)) rfl ?_|refine aaL (by first|((with_reducible apply Kc);(focus ((conv=>lhs;whnf);(first|done|fail))))|((with_reducible apply FB);(focus ((conv=>lhs;whnf);(first|done|fail))))|((with_reducible apply FC);(focus exact rfl))|((with_reducible apply Kj);(focus exact rfl);(focus exact rfl))|((with_reducible apply Kk);(focus exact rfl);(focus exact rfl))|((with_reducible apply Kl);(focus exact rfl);(focus exact rfl))|((with_reducible apply Km);(focus exact rfl);(focus exact rfl))|((with_reducible apply Kn);(focus exact rfl);(focus exact rfl))|((with_reducible apply Ko);(focus exact rfl);(focus exact rfl))|((with_reducible apply Kh);(focus exact rfl))|((with_reducible apply Ke);(focus exact rfl);(focus ((conv=>lhs;whnf);(first|done|fail))))|((with_reducible apply Kg);(focus exact rfl);(focus ((conv=>lhs;whnf);(first|done|fail))))|((with_reducible apply Ku);(focus exact rfl);(focus ((conv=>lhs;whnf);(first|done|fail))))|((with_reducible apply Kv);(focus exact rfl))|((with_reducible apply Kw);(focus exact rfl);(focus ((conv=>lhs;whnf);(first|done|fail))))|((with_reducible apply Ky);(focus exact rfl);(focus ((conv=>lhs;whnf);(first|done|fail))))|((with_reducible apply Kz);(focus ((conv=>lhs;whnf);(first|done|fail))))|((with_reducible apply KA);(focus exact rfl))|((with_reducible apply KC);(focus exact rfl))|((with_reducible apply KD);(focus exact rfl))|with_reducible exact Ki|((with_reducible apply KE);(focus exact rfl);(focus exact rfl);(focus exact rfl))|((with_reducible apply KS);(focus exact rfl);(focus exact rfl);(focus ((omega);(first|done|fail))))|((with_reducible apply FD);(focus exact rfl);(focus exact rfl);(focus ((omega);(first|done|fail)));(focus ((omega);(first|done|fail))))|((with_reducible apply KF);(focus exact rfl);(focus exact rfl);(focus ((omega);(first|done|fail)));(focus ((omega);(first|done|fail))))|((with_reducible apply Kq);(focus exact rfl);(focus exact rfl);(focus ((omega);(first|done|fail)));(focus ((omega);(first|done|fail))))|((with_reducible apply Kt);(focus exact rfl);(focus exact rfl);(focus ((omega);(first|done|fail)));(focus ((omega);(first|done|fail))))|((with_reducible apply KI);(focus exact rfl);(focus exact rfl);(focus ((first|assumption|kernel_rfl);(first|done|fail))))|((with_reducible apply KJ);(focus exact rfl);(focus exact rfl);(focus ((first|assumption|kernel_rfl);(first|done|fail))))|((with_reducible apply KN);(focus exact rfl);(focus exact rfl))|((with_reducible apply KP);(focus exact rfl);(focus exact rfl))|((with_reducible apply KQ);(focus exact rfl);(focus exact rfl);(focus ((omega);(first|done|fail)));(focus ((omega);(first|done|fail))))) rfl ?_))
 (next:∀y,pr y->R (λh=>aB P ds rest (act n ((d,val y)::l) D pm ro) h K) B w0 (fF y) (F2 y)):
 R (λh=>aB P ds (⟨⟨some d,g,.call f xs⟩,re⟩::rest) (act n l D pm ro) h K) B w0 kl F:=
 aaN hc hn hg hf hx ha hk hF (λy hy=>by rw[(hak y).eq,(FK y).eq];exact hs y hy) (λy hy=>by rw[(hak y).eq,(FK y).eq];exact next y hy)
abbrev eY(P:Program)(f:FuncId)(args:List Value)(F:List aK)(v:Value):Prop:=bD P (.func f) args [] [] F (λ_:Unit=>v) (λ_=>[]) (λ_=>[]) (λ_=>True)
theorem aX{Y:Type}{f:FuncId}{args cap:List Value}{kl:List OA}{F:List aK}{val:Y->Value}{kl':Y->List OA}{fs:Y->List aK}{pr:Y->Prop}{c:cB}{m:Nat}{l0:List (Nat×Value)}(cf:eX)(hF:(pR P pU uC).F f=some cf)
 (hb:∀B w0,R (λh=>EV P c (act m l0 [] none none) h (CE cf (Left B w0 val kl' fs pr))) B w0 kl F)
 (h1:cf.body=c:=by conv=>lhs;(reduce;(try simp only[Int.reduceOfNat,Int.reduceNegSucc]))) (h2:qY cf.ntmps (gB (args++cap))=m:=by conv=>lhs;whnf) (h3:rP 0 (args++cap) []=l0:=by dsimp only[rP,Nat.reduceAdd,List.append_nil,List.cons_append,List.nil_append]):bD P (.func f) args cap kl F val kl' fs pr:=
 aaJ cf hF (by rw[h1,h2,h3];exact hb)
theorem bJ{α:Type}(E:Enc α){x i:Operand}{v:Value}{xs:List α}{size:Nat}{k:Nat}{kk:IntKind}{F2:α->E.Y->List aK}(hn:Nat.blt d n=true:=by rfl)(hg:bH l g=true:=by rfl)(hx:ev l x=v:=by conv=>lhs;whnf)(hi:ev l i=.int kk (k:Int):=by rfl)
 (hf:ah E v xs∈F:=by exact oF) (hs:E.n=size:=by rfl) (h1:k<xs.length:=by omega)
 (ha:∀z y,bZ (E.fs z y) F (F2 z y):=by intro z y;repeat (first|exact bZ.nil|apply bZ.cons|exact bZ.self|exact bZ.app))
 (next:∀b o z y,xs[k]? =some z->R (λh=>aB P ds rest (act n ((d,.pointer (some ⟨b,o,none⟩))::l) D pm ro) h K) B w0 kl (dG b o (E.pat z y)::F2 z y)):
 R (λh=>aB P ds (⟨⟨some d,g,.fB size x i⟩,[]⟩::rest) (act n l D pm ro) h K) B w0 kl F:=
 (KH hn hg hx hi hf hs (by omega) (by omega)).h λb o z y hz=>by rw[(ha z y).eq];exact next b o z y (by simpa using hz)
theorem aj{Y:Type}{o:Out}{cf:eX}{vs:List Value}{val:Y->Value}{k1:Y->List OA}{fs:Y->List aK}{pr:Y->Prop}(y:Y)
 (hr:RS l kl cf.results vs:=by exact CW) (hv:sV vs=val y:=by rfl) (hp:pr y)
 (hk:aM (k1 y) kl bK:=by exact qJ) (hF:Sub (fs y) F:=by exact pY)
 (ho:o=.normal\/o=.ret:=by first|exact .inl rfl|exact .inr rfl):R (λh=>CE cf (Left B w0 val k1 fs pr) o (act n l [] none ro) h) B w0 kl F:=
 aaO y hr hv hp hk hF ho
theorem bG{A:OA}{fs F2:List aK}{Q:IH->Prop}(hA:wF A fs)(hk:ai A kl kl':=by exact fM)(ha:bZ fs F F2:=by repeat (first|exact bZ.nil|apply bZ.cons|exact bZ.self|exact bZ.app))(h:R Q B w0 kl' F2):R Q B w0 kl F:=
 aaG hA hk (by rw[ha.eq];exact h)
theorem bE{X:Type}{c:cB}{l0:List (Nat×Value)}{L2:X->List (Nat×Value)}{Qh:X->List OA}{Qi:X->List aK}(m:X->Nat)(L:X->List (Nat×Value))(KL:X->List OA)(FF:X->List aK)(inv:X->Prop)(x0:X)(hi:inv x0)
 (h0:uP l (L x0) l0:=by repeat (first|exact uP.nil|(apply uP.drop;(focus exact rfl))|(apply uP.keep;(focus exact rfl)))) (hl:sub (L x0++l0) l:=by repeat (first|exact trivial|refine⟨rfl,?_⟩))
 (hk:aM (KL x0) kl bK:=by exact qJ) (hF:Sub (FF x0) F:=by exact pY)
 (hak:∀x,bZ (KL x) bK (Qh x):=by intro y;repeat (first|exact bZ.nil|apply bZ.cons|exact bZ.self|exact bZ.app)) (FK:∀x,bZ (FF x) F (Qi x):=by intro y;repeat (first|exact bZ.nil|apply bZ.cons|exact bZ.self|exact bZ.app))
 (hal:∀x,bZ (L x) l0 (L2 x):=by intro y;repeat (first|exact bZ.nil|apply bZ.cons|exact bZ.self|exact bZ.app))
 (body:∀x,inv x->R (λh=>EV P c (act n (L2 x) D pm ro) h (uO (LI n D pm ro B w0 m L KL FF inv l0 bK F) (m x) K)) B w0 (Qh x) (Qi x)):
 R (λh=>EV P (.loop c) (act n l D pm ro) h K) B w0 kl F:=
 aaP m L KL FF inv x0 hi l0 hl hk hF λx hx=>by rw[(hak x).eq,(FK x).eq,(hal x).eq];exact body x hx
theorem aO{X:Type}{m:X->Nat}{L:X->List (Nat×Value)}{KL:X->List OA}{FF:X->List aK}{inv:X->Prop}{l0:List (Nat×Value)}{Qj fF:List OA}{F0:List aK}{m0:Nat}(x:X)(hm:m x<m0)(hi:inv x)
 (hl:sub (L x++l0) l:=by repeat (first|exact trivial|refine⟨rfl,?_⟩)) (ha:bZ (KL x) bK Qj:=by repeat (first|exact bZ.nil|apply bZ.cons|exact bZ.self|exact bZ.app))
 (hk:aM Qj kl fF:=by exact qJ) (hF:Sub (FF x) F:=by exact pY)
 (sW:jc F0 F:=by repeat (first|exact jc.here|apply jc.cons|apply jc.app)):
 R (λh=>uO (LI n D pm ro B w0 m L KL FF inv l0 bK F0) m0 K .normal (act n l D pm ro) h) B w0 kl F:=
 aaQ x hm hi hl (by rw[ha.eq];exact hk) hF sW
end
end Go.Ideal
namespace Go.Ideal
class Ab (e:Bool) (f t:outParam Prop):Prop where
 no:e=false->f
 yes:e=true->t
instance (priority:=low) ai3 {e:Bool}:Ab e (e=false) (e=true):=⟨id,id⟩
instance ai4 {p:Prop} {_:Decidable p}:Ab (decide p) (¬p) p:=⟨Iq,nX⟩
instance ai5 {p:Prop} {_:Decidable p}:Ab (!decide p) p (¬p):=⟨λe=>by simpa using e,λe=>by simpa using e⟩
section
variable {P:Program}
variable {B:List Nat} {w0:Wd} {kl:List OA} {F:List aK} {K:KO} {ds:List Tmp} {rest:List aY} {n:Nat} {l:List (Nat×Value)} {D:List Deferred} {pm:Option FrameMode} {ro:Option Nat} {t1 t2:Nat}
theorem gG{e:Bool}{f t:Prop}[Ab e f t](h1:f->R (λh=>aB P ds rest (act n ((t1,.bool false)::(t2,.bool false)::l) D pm ro) h K) B w0 kl F)(h2:t->R (λh=>aB P ds rest (act n ((t1,.bool true)::(t2,.bool true)::l) D pm ro) h K) B w0 kl F):
 R (λh=>aB P ds rest (act n ((t1,.bool e)::(t2,.bool e)::l) D pm ro) h K) B w0 kl F:=
 g_b (λx=>h1 (Ab.no x)) (λx=>h2 (Ab.yes x))
end
section
instance ai6 {n:Nat}:OfNat Operand n:=⟨.tmp n⟩
abbrev kI(n:Int):Operand:=.const (.int .i64 n)
abbrev kT:Operand:=.const (.bool true)
abbrev kF:Operand:=.const (.bool false)
abbrev vI:Value:=.int .i64 0
abbrev vS:Value:=.slice none 0 0
abbrev vE:Value:=.string ⟨⟨[]⟩⟩
abbrev kC(f:Nat)(l:List Operand):ak:=.call (.func f) l
abbrev kS(n:Nat)(e:ak):aY:=⟨⟨some n,none,e⟩,[]⟩
abbrev kG(n c:Nat)(e:ak):aY:=⟨⟨some n,some ⟨c,true⟩,e⟩,[]⟩
abbrev kH(n c:Nat)(e:ak):aY:=⟨⟨some n,some ⟨c,false⟩,e⟩,[]⟩
abbrev kN(e:ak):aY:=⟨⟨none,none,e⟩,[]⟩
abbrev kM(n:Nat)(x:Operand):aY:=kS n (.mv x)
abbrev kO(l:List aY):cB:=.ops (l.filterMap λx=>x.s.dst) l
end
end Go.Ideal
namespace Go.Ideal
noncomputable def FL(L:Lay):Wd:=⟨iV L,λi=>i<(iV L).next,λ_ h=>h⟩
end Go.Ideal
namespace Go.Ideal
open Go.ChangeShapes Go.WideShapes Go.ChangeAt Go.RowKit
variable {P:Program}
def Ac{α:Type}(P:Program)(t:TypeId)(E:Enc α):Prop:=∀(w:Wd) (H:Type) (d:DataW H) (cs:List Value),(∀i,i<w.h.next->w.z i)->fQ P w.h t cs d->∃a y,cs=E.pat a y/\∀f∈E.fs a y,f.p w
theorem FM{α:Type}{p:Nat->α->Prop}:∀n,(∀k,k<n->∃a,p k a)->∃l:List α,l.length=n/\∀(k:Nat) a,l[k]? =some a->p k a
 |0,_=>⟨[],rfl,λk a h=>by cases h⟩
 |n+1,h=>by
  obtain⟨l,h1,h2⟩:=FM n (λk hk=>h k (by omega));obtain⟨a,ha⟩:=h n (by omega);refine⟨l++[a],by simp[h1],λk b hb=>?_⟩;by_cases hk:k<l.length
  ·rw[kD hk]at hb;exact h2 k b hb
  ·rw[pq (by omega)]at hb;have hk0:k=n:=by have:=(dX.1 hb).1;simp at this;omega
   subst hk0;rw[h1]at hb;simp at hb;subst hb;exact ha
def Qk{α β:Type}(E1:Enc α)(E2:Enc β):Enc (α×β):=⟨E1.n+E2.n,E1.Y×E2.Y,λa y=>E1.pat a.1 y.1++E2.pat a.2 y.2,λa y=>E1.fs a.1 y.1++E2.fs a.2 y.2,λa y=>by rw[dW,E1.len,E2.len]⟩
def Ql:Enc Unit:=⟨0,Unit,λ_ _=>[],λ_ _=>[],λ_ _=>rfl⟩
inductive Ad(P:Program):{α:Type}->List Field->Enc α->Prop
 |nil:Ad P [] Ql
 |cons {α β:Type} {f:Field} {fs:List Field} {E1:Enc α} {E2:Enc β} (h:Ac P f.type E1) (hn:P.cellsOf f.type=E1.n) (t:Ad P fs E2):Ad P (f::fs) (Qk E1 E2)
theorem Ad.FN{w:Wd}{H:Type}(hz:∀i,i<w.h.next->w.z i):∀{α:Type} {fs:List Field} {E:Enc α},Ad P fs E->∀(o0:Nat) (cs:List Value) (ds:List (DataW H)),cs.length=(fs.map λf=>P.cellsOf f.type).sum->ds.length=fs.length->
 fs.map (·.offset)=sums o0 (fs.map λf=>P.cellsOf f.type)->(∀(j:Nat) f d,fs[j]? =some f->ds[j]? =some d->fQ P w.h f.type ((cs.drop (f.offset - o0)).take (P.cellsOf f.type)) d)->∃a y,cs=E.pat a y/\∀f∈E.fs a y,f.p w
 |_,_,_,.nil,o0,cs,ds,h1,h2,h3,h4=>⟨(),(),sD.1 (by simpa using h1),λf hf=>by cases hf⟩
 |_,_,_,.cons (f:=f) (fs:=fs) (E1:=E1) (E2:=E2) h hn t,o0,cs,ds,h1,h2,h3,h4=>by
  match ds,h2 with
  |d::ds,h2=>
   simp only[mJ,List.sum_cons,sums,zf]at h1 h3;obtain⟨ho,h3⟩:=h3;have r0:=h4 0 f d rfl rfl;rw[ho,xA,uo]at r0;obtain⟨a,y,q1,q2⟩:=h w H d _ hz r0;obtain⟨b,z,u1,u2⟩:=Ad.FN hz t (o0+P.cellsOf f.type) (cs.drop (P.cellsOf f.type)) ds (by rw[jR];omega) (by simpa using h2) h3 (λj g e hg he=>by
    have:=h4 (j+1) g e hg he;rw[List.drop_drop];have hle:o0+P.cellsOf f.type<=g.offset:=by
     have hj:(fs.map (·.offset))[j]? =some g.offset:=by rw[bX,hg];rfl
     rw[h3]at hj;have hs:(fs.map λf=>P.cellsOf f.type)[j]? =some (P.cellsOf g.type):=by rw[bX,hg];rfl
     exact(wD _ ([]:List Value) (o0+P.cellsOf f.type) j _ _ hj hs).2
    rw[show P.cellsOf f.type+(g.offset - (o0+P.cellsOf f.type))=g.offset - o0 by omega];exact this)
   refine⟨(a,b),(y,z),?_,?_⟩
   ·show cs=E1.pat a y++E2.pat b z;rw[<- q1,<- u1,xz]
   ·intro g hg;rcases gy.1 hg with hg|hg
    ·exact q2 g hg
    ·exact u2 g hg
theorem Ac.conv{α β:Type}{t:TypeId}{E:Enc α}{E':Enc β}(h:Ac P t E)(hc:∀a y,∃b z,E.pat a y=E'.pat b z/\E.fs a y=E'.fs b z):Ac P t E':=λw H d cs hz r=>by
 obtain⟨a,y,q1,q2⟩:=h w H d cs hz r;obtain⟨b,z,e1,e2⟩:=hc a y;exact⟨b,z,by rw[q1,e1],λf hf=>q2 f (by rw[e2];exact hf)⟩
section
variable {H:Type} {enc:TypeId×Value->H} {W:World} {K:TypeId->Prop}
def sZ(P:Program)(w:Wd)(t:TypeId)(v:Value){H:Type}(d:DataW H):Prop:=∃cs,fQ P w.h t cs d/\((iD P t=true/\v=.agg ⟨cs⟩)\/(iD P t=false/\cs=[v]))
theorem sZ.agg{α:Type}{w:Wd}{t:TypeId}{v:Value}{d:DataW H}{E:Enc α}(h:sZ P w t v d)(hz:∀i,i<w.h.next->w.z i)(ha:iD P t=true)(hr:Ac P t E):∃a y,v=.agg ⟨E.pat a y⟩/\∀f∈E.fs a y,f.p w:=by
 obtain⟨cs,r,⟨_,e⟩|⟨e,_⟩⟩:=h
 ·obtain⟨a,y,rfl,q⟩:=hr w H d cs hz r;exact⟨a,y,e,q⟩
 ·rw[ha]at e;cases e
theorem sZ.one{α:Type}{w:Wd}{t:TypeId}{v:Value}{d:DataW H}{E:Enc α}(h:sZ P w t v d)(hz:∀i,i<w.h.next->w.z i)(ha:iD P t=false)(hr:Ac P t E):∃a y,E.pat a y=[v]/\∀f∈E.fs a y,f.p w:=by
 obtain⟨cs,r,⟨e,_⟩|⟨_,e⟩⟩:=h
 ·rw[ha]at e;cases e
 ·obtain⟨a,y,q0,q⟩:=hr w H d cs hz r;exact⟨a,y,by rw[<- q0,e],q⟩
theorem aaZ{L:Lay}{t:TypeId}{v v0:Value}{d:DataW H}{w:Wd}(hw:w.h=iV L)(r:wE P (iV L) t v d)(hv:VR (iI L) v v0)(hok:Value.okWide P W .any 0 t v0):sZ P w t v d:=by
 obtain⟨cs,r1,h2,h3⟩:=r;refine⟨cs,by rw[hw];exact r1,?_⟩;cases ha:iD P t with
 |true=>
  left;refine⟨rfl,?_⟩;rcases h3 with e|e
  ·subst e;have hagg:∃c,v0=.agg c:=by
    unfold iD at ha;unfold Value.okWide at hok;split at ha
    ·rename_i fs hu;rw[hu]at hok;obtain⟨c,e,_⟩:=hok;exact⟨c,e⟩
    ·rename_i n e hu;rw[hu]at hok;obtain⟨c,e,_⟩:=hok;exact⟨c,e⟩
    ·cases ha
   obtain⟨c,rfl⟩:=hagg
   exfalso
   cases hv<;>simp[cellV]at h2
  ·exact e
 |false=>
  right;refine⟨rfl,?_⟩;rcases h3 with e|e
  ·exact e
  ·subst e
   exfalso
   cases hv with
   |agg hc hl=>
    cases hu:P.underlying t with
    |none=>simp[Value.okWide,Cell.okWide,Cell.ok,hu]at hok
    |some d=>cases d<;>simp[Value.okWide,Cell.okWide,Cell.ok,iD,hu]at hok ha
theorem aa0{ts:List TypeId}{vs' vs:List Value}{L:Lay}(hv:aJ (iI L) vs' vs):∀(j:Nat) v',vs'[j]? =some v'->∃v,vs[j]? =some v/\VR (iI L) v' v:=by
 intro j;induction j generalizing vs' vs with
 |zero=>
  intro v' h;cases hv with
  |nil=>cases h
  |cons h1 h2=>cases h;exact⟨_,rfl,h1⟩
 |succ j ih=>
  intro v' h;cases hv with
  |nil=>cases h
  |cons h1 h2=>exact ih h2 v' h
theorem yc{a:Nat}{b:Nat->Bool}{c:Bool}:∀{ts:List TypeId} {vs:List Value} {ds:List (DataW H)} {ps:List MemPlace},DataW.TrodAll enc P W a b c ts vs ds ps->vs.length=ts.length/\ds.length=ts.length
 |[],[],[],_,_=>⟨rfl,rfl⟩
 |_::_,_::_,_::_,_,⟨_,_,_,h,_⟩=>by
  have:=yc h;simp[this.1,this.2]
theorem Qm{α:Type}{l:List α}(h:l.length=3):∃a b c,l=[a,b,c]:=by
 match l,h with
 |[a,b,c],_=>exact⟨a,b,c,rfl⟩
theorem Ae{α:Type}{l:List α}(h:l.length=2):∃a b,l=[a,b]:=by
 match l,h with
 |[a,b],_=>exact⟨a,b,rfl⟩
theorem FO{α:Type}{l:List α}(h:l.length=4):∃a b c d,l=[a,b,c,d]:=by
 match l,h with
 |[a,b,c,d],_=>exact⟨a,b,c,d,rfl⟩
end
