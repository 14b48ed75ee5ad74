/- Part. -/
import Derived.Test.YtignbinlipkmfaaGreatDoorIdealIR
set_option linter.all false
namespace Go.Ideal
variable{p:Prop}
def mK(h:p:=by repeat (first|exact Sub.nil|(apply Sub.cons;(focus ((repeat (first|with_reducible exact fF .. |with_reducible apply iw));first|done|fail)))|exact qj.sub (by repeat (first|with_reducible exact qj.here|with_reducible apply qj.cons|with_reducible apply qj.app)))):p:=h
def nH(h:p:=by repeat (first|exact aH.nil|(apply aH.cons;(focus (repeat (first|with_reducible exact aB.here|with_reducible apply aB.there|with_reducible apply aB.app))))|with_reducible exact aH.all _|with_reducible exact aH.self _ _|with_reducible apply aH.there)):p:=h
def dV(h:p:=by repeat (first|with_reducible exact aB.here|with_reducible apply aB.there|with_reducible apply aB.app)):p:=h
def Au(h:p:=by repeat (first|exact RS.nil|(apply RS.tmp;(conv=>lhs;whnf))|(apply RS.cell1;(focus exact rfl);(focus (repeat (first|with_reducible exact aB.here|with_reducible apply aB.there|with_reducible apply aB.app)));(conv=>lhs;whnf))|(apply RS.sD;(focus exact rfl);(focus (repeat (first|with_reducible exact aB.here|with_reducible apply aB.there|with_reducible apply aB.app)));(conv=>lhs;whnf)))):p:=h
def ic(h:p:=by(repeat (first|with_reducible exact fF .. |with_reducible apply iw));first|done|fail):p:=h
variable {P:Program}
section
variable {B:ae Nat} {w0:Wd} {kl:ae OA} {F:ae aM} {K:KO} {ds:ae Tmp} {rest:ae bW} {n:Nat} {l:qr} {D:ae Deferred} {pm:ak FrameMode} {ro:ak Nat} {d:Nat} {g:ak (Tmp×Bool)}
variable{x i:az}{v:ah}{k:Nat}{kk:IntKind}
def ake{xs:ae Int}(hn:Nat.blt d n=true)(hg:bV l g=true)(hx:ev l x=v)(hi:ev l i=.int kk (k:Int))(hf:aj ai v xs∈F)(h1:k<xs.length):
 dD (R (λh=>aJ P ds (⟨⟨some d,g,.jv 1 x i⟩,[]⟩::rest) (act n l D pm ro) h K) B w0 kl F)
  (∀b o z,xs[k]? =some z->R (λh=>aJ P ds rest (act n ((d,.pointer (some ⟨b,o,none⟩))::l) D pm ro) h K) B w0 kl (dO b o [.int .i64 z]::F)):=
 ⟨λr=>(YO hn hg hx hi hf tf tf).h (by grind)⟩
def akf{xs:ae Bool}(hn:Nat.blt d n=true)(hg:bV l g=true)(hx:ev l x=v)(hi:ev l i=.int kk (k:Int))(hf:aj sJ v xs∈F)(h1:k<xs.length):
 dD (R (λh=>aJ P ds (⟨⟨some d,g,.jv 1 x i⟩,[]⟩::rest) (act n l D pm ro) h K) B w0 kl F)
  (∀b o z,xs[k]? =some z->R (λh=>aJ P ds rest (act n ((d,.pointer (some ⟨b,o,none⟩))::l) D pm ro) h K) B w0 kl (dO b o [.bool z]::F)):=
 ⟨λr=>(YP hn hg hx hi hf tf tf).h (by grind)⟩
end
inductive Fill(ρ:Operand->Value):List Value->List (Nat×Nat×Operand)->List Value->Prop
 |nil {cs:List Value}:Fill ρ cs [] cs
 |cons {cs vs cs' r:List Value} {off size:Nat} {x:Operand} {parts:List (Nat×Nat×Operand)} {v:Value} (h0:ρ x=v) (h1:cellsOf v=some vs) (h2:Nat.beq (jq vs) size=true) (h3:jE cs off vs=some cs') (t:Fill ρ cs' parts r):Fill ρ cs ((off,size,x)::parts) r
def Fill.eq{ρ:az->ah}:∀{zero:ae ah} {parts:ae (Nat×Nat×az)} {cs:ae ah},Fill ρ zero parts cs->uU ρ zero parts=some cs
 |_,_,_,.nil=>rfl
 |cs0,_,_,.cons (off:=off) (size:=size) (x:=x) (parts:=parts) h0 h1 h2 h3 t=>by
  have ih:=t.eq;show(match cellsOf (ρ x)with
   |none=>none
   |some vs=>cond (Nat.beq (jq vs) size) (match jE cs0 off vs with
    |some cs=>uU ρ cs parts
    |none=>none) none)=_
  grind
variable{B:ae Nat}{w0:Wd}{kl:ae OA}{F:ae aM}{K:KO}{ds:ae Tmp}{rest:ae bW}{n d:Nat}{l:qr}{D:ae Deferred}{pm:ak FrameMode}{ro:ak Nat}{g:ak (Tmp×Bool)}
def akg
 {t:aF} {len:Nat} {zero cs:ae ah} {parts:ae (Nat×Nat×az)} (hn:Nat.blt d n=true) (hg:bV l g=true) (hx:Fill (ev l) zero parts cs):
 dD (R (λh=>aJ P ds (⟨⟨some d,g,.yX t len zero parts⟩,[]⟩::rest) (act n l D pm ro) h K) B w0 kl F)
 (∀b,R (λh=>aJ P ds rest (act n ((d,.slice (some ⟨b,0,some 0⟩) len len)::l) D pm ro) h K) B w0 (pt b (.cells cs)::kl) F):=ajT hn hg hx.eq
def akh
 {zero cs:ae ah} {parts:ae (Nat×Nat×az)} (hn:Nat.blt d n=true) (hg:bV l g=true) (hx:Fill (ev l) zero parts cs):
 dD (R (λh=>aJ P ds (⟨⟨some d,g,.build zero parts⟩,[]⟩::rest) (act n l D pm ro) h K) B w0 kl F) (R (λh=>aJ P ds rest (act n ((d,.agg ⟨cs⟩)::l) D pm ro) h K) B w0 kl F):=cZ hn hg (ajr hx.eq)
variable{α:Type}
def aki{E:Enc α}{v:ah}{xs:ae α}{Q:IH->Prop}(hf:aj E v xs∈F)(h:∀a c,v=.slice a xs.length c->R Q B w0 kl F):R Q B w0 kl F:=λw s=>by
 obtain⟨a,c,e⟩:=YN (s.facts _ hf);exact h a c e w s
section
variable {B:ae Nat} {w0:Wd} {kl:ae OA} {F:ae aM} {K:KO} {ds:ae Tmp} {rest:ae bW} {n:Nat} {l:qr} {D:ae Deferred} {pm:ak FrameMode} {ro:ak Nat} {t1 t2:Nat}
def nW{e:Bool}(h1:e=false->R (λh=>aJ P ds rest (act n ((t1,.bool false)::(t2,.bool false)::l) D pm ro) h K) B w0 kl F)(h2:e=true->R (λh=>aJ P ds rest (act n ((t1,.bool true)::(t2,.bool true)::l) D pm ro) h K) B w0 kl F):
 R (λh=>aJ P ds rest (act n ((t1,.bool e)::(t2,.bool e)::l) D pm ro) h K) B w0 kl F:=by
 cases e
 .exact h1 rfl
 .exact h2 rfl
variable{p:Prop}
def qW{_:Decidable p}(h1:¬p->R (λh=>aJ P ds rest (act n ((t1,.bool false)::(t2,.bool false)::l) D pm ro) h K) B w0 kl F)(h2:p->R (λh=>aJ P ds rest (act n ((t1,.bool true)::(t2,.bool true)::l) D pm ro) h K) B w0 kl F):
 R (λh=>aJ P ds rest (act n ((t1,.bool (decide p))::(t2,.bool (decide p))::l) D pm ro) h K) B w0 kl F:=
 nW (by grind) (by grind)
def ql{_:Decidable p}(h1:p->R (λh=>aJ P ds rest (act n ((t1,.bool false)::(t2,.bool false)::l) D pm ro) h K) B w0 kl F)(h2:¬p->R (λh=>aJ P ds rest (act n ((t1,.bool true)::(t2,.bool true)::l) D pm ro) h K) B w0 kl F):
 R (λh=>aJ P ds rest (act n ((t1,.bool (!decide p))::(t2,.bool (!decide p))::l) D pm ro) h K) B w0 kl F:=
 nW (by grind) (by grind)
end
section
variable {B:ae Nat} {w0:Wd} {kl kl':ae OA} {F:ae aM} {K:KO} {ds:ae Tmp} {rest:ae bW} {n:Nat} {l:qr} {D:ae Deferred} {pm:ak FrameMode} {ro:ak Nat} {d:Nat} {g:ak (Tmp×Bool)}
variable{x:az}{v:ah}{cs:ae ah}
def akj{t:aF}(hn:Nat.blt d n=true)(hg:bV l g=true)(hv:ev l x=v)(hx:cellsOf v=some cs):dD (R (λh=>aJ P ds (⟨⟨some d,g,.box x t⟩,[]⟩::rest) (act n l D pm ro) h K) B w0 kl F)
 (∀b,R (λh=>aJ P ds rest (act n ((d,.pointer (some ⟨b,0,none⟩))::l) D pm ro) h K) B w0 (pt b (.cells cs)::kl) F):=ajS hn hg (by rw[hv];exact hx)
def akk{y:az}{b o m:Nat}{vs c:ae ah}(hg:bV l g=true)(hx:ev l x=.pointer (some ⟨b,o,none⟩))(hw:ev l y=v)(hy:cellsOf v=some vs)(hm:Nat.beq (jq vs) m=true)
 (hk:aB (pt b (.cells cs)) kl kl') (hv:jE cs o vs=some c):
 dD (R (λh=>aJ P ds (⟨⟨none,g,.store m x y⟩,[]⟩::rest) (act n l D pm ro) h K) B w0 kl F) (R (λh=>aJ P ds rest (act n l D pm ro) h K) B w0 (pt b (.cells c)::kl') F):=SX hg hx (by rw[hw];exact hy) hm hk hv
end
def akl
 {fn:Fn} {first captured:ae az} {a b:ae ah} (hn:Nat.blt d n=true) (hg:bV l g=true) (h1:EvL (ev l) first a) (h2:EvL (ev l) captured b):
 dD (R (λh=>aJ P ds (⟨⟨some d,g,.Dy fn first captured⟩,[]⟩::rest) (act n l D pm ro) h K) B w0 kl F) (R (λh=>aJ P ds rest (act n ((d,.func fn ⟨a⟩ ⟨b⟩)::l) D pm ro) h K) B w0 kl F):=cZ hn hg (ajs h1 h2)
def Av(h:p:=by
 repeat (first
  |((with_reducible apply dD.trans);first
   |with_reducible exact ajt
   |with_reducible exact aju
   |with_reducible exact ajv
   |with_reducible exact ajw
   |with_reducible exact ajx
   |with_reducible exact ajy
   |with_reducible exact ajz
   |with_reducible exact ajA
   |with_reducible exact ajB
   |with_reducible exact ajC
   |with_reducible exact ajD
   |with_reducible exact ajE
   |with_reducible exact ajF
   |with_reducible exact ajG
   |with_reducible exact ajH
   |with_reducible exact ajK
   |with_reducible exact ajL
   |with_reducible exact ajM
   |((with_reducible apply ajI);exact rfl)
   |((with_reducible apply ajJ);exact rfl)
   |((with_reducible apply ajN);exact rfl)
   |((with_reducible apply ajO);exact rfl)
   |((with_reducible apply ajP);exact rfl;exact rfl)
   |((with_reducible apply ake);exact rfl;exact rfl;(focus ((conv=>lhs;whnf);(first|done|fail)));exact rfl;exact ic;(focus ((omega);(first|done|fail))))
   |((with_reducible apply akf);exact rfl;exact rfl;(focus ((conv=>lhs;whnf);(first|done|fail)));exact rfl;exact ic;(focus ((omega);(first|done|fail))))
   |((with_reducible apply YO);exact rfl;exact rfl;(focus ((conv=>lhs;whnf);(first|done|fail)));exact rfl;exact ic;(focus ((omega);(first|done|fail)));(focus ((omega);(first|done|fail))))
   |((with_reducible apply YP);exact rfl;exact rfl;(focus ((conv=>lhs;whnf);(first|done|fail)));exact rfl;exact ic;(focus ((omega);(first|done|fail)));(focus ((omega);(first|done|fail))))
   |((with_reducible apply cZ);exact rfl;exact rfl;(focus ((first|((with_reducible apply Jl);(focus ((conv=>lhs;whnf);(first|done|fail))))|((with_reducible apply Jm);(focus ((conv=>lhs;whnf);(first|done|fail))))|((with_reducible apply Jq);exact rfl)|((with_reducible apply Js);exact rfl;exact rfl)|((with_reducible apply Jt);exact rfl;exact rfl)|((with_reducible apply Ju);exact rfl;exact rfl)|((with_reducible apply Jv);exact rfl;exact rfl)|((with_reducible apply Jw);exact rfl;exact rfl)|((with_reducible apply Jy);exact rfl;exact rfl)|((with_reducible apply Jp);exact rfl)|((with_reducible apply Jn);exact rfl;(focus ((conv=>lhs;whnf);(first|done|fail))))|((with_reducible apply Jo);exact rfl;(focus ((conv=>lhs;whnf);(first|done|fail))))|((with_reducible apply JA);exact rfl;(focus ((conv=>lhs;whnf);(first|done|fail))))|((with_reducible apply JB);exact rfl)|((with_reducible apply JC);exact rfl;(focus ((conv=>lhs;whnf);(first|done|fail))))|((with_reducible apply JD);exact rfl;(focus ((conv=>lhs;whnf);(first|done|fail))))|((with_reducible apply JE);(focus ((conv=>lhs;whnf);(first|done|fail))))|((with_reducible apply JF);exact rfl)|((with_reducible apply JG);exact rfl)|((with_reducible apply JH);exact rfl)|with_reducible exact Jr|((with_reducible apply JI);exact rfl;exact rfl;exact rfl)|((with_reducible apply JQ);exact rfl;exact rfl;(focus ((omega);(first|done|fail))))|((with_reducible apply Gg);exact rfl;exact rfl;(focus ((omega);(first|done|fail)));(focus ((omega);(first|done|fail))))|((with_reducible apply JJ);exact rfl;exact rfl;(focus ((omega);(first|done|fail)));(focus ((omega);(first|done|fail))))|((with_reducible apply D7);exact rfl;exact rfl;(focus ((omega);(first|done|fail)));(focus ((omega);(first|done|fail))))|((with_reducible apply Jz);exact rfl;exact rfl;(focus ((omega);(first|done|fail)));(focus ((omega);(first|done|fail))))|((with_reducible apply JL);exact rfl;exact rfl;(focus ((first|assumption|kernel_rfl);(first|done|fail))))|((with_reducible apply JM);exact rfl;exact rfl;(focus ((first|assumption|kernel_rfl);(first|done|fail))))|((with_reducible apply JN);exact rfl;exact rfl)|((with_reducible apply JO);exact rfl;exact rfl)|((with_reducible apply JP);exact rfl;exact rfl;(focus ((omega);(first|done|fail)));(focus ((omega);(first|done|fail)))));(first|done|fail))))
   |((with_reducible apply akl);exact rfl;exact rfl;(focus (repeat (first|with_reducible exact EvL.nil|((with_reducible apply EvL.cons);(conv=>lhs;whnf)))));(focus (repeat (first|with_reducible exact EvL.nil|((with_reducible apply EvL.cons);(conv=>lhs;whnf))))))
   |((with_reducible apply akg);exact rfl;exact rfl;(focus (repeat (first|with_reducible exact Fill.nil|((with_reducible apply Fill.cons);(conv=>lhs;whnf);(conv=>lhs;whnf);exact rfl;(conv=>lhs;whnf))))))
   |((with_reducible apply akh);exact rfl;exact rfl;(focus (repeat (first|with_reducible exact Fill.nil|((with_reducible apply Fill.cons);(conv=>lhs;whnf);(conv=>lhs;whnf);exact rfl;(conv=>lhs;whnf))))))
   |((with_reducible apply akj);exact rfl;exact rfl;(focus ((conv=>lhs;whnf);(first|done|fail)));(focus ((conv=>lhs;whnf);(first|done|fail))))
   |((with_reducible apply ajR);exact rfl;exact rfl)
   |((with_reducible apply ajV);exact rfl;exact rfl;exact rfl;exact dV;(focus ((conv=>lhs;whnf);(first|done|fail))))
   |((with_reducible apply YL);exact rfl;exact rfl;exact rfl;exact dV;(focus ((conv=>lhs;whnf);(first|done|fail))))
   |((with_reducible apply ajW);exact rfl;exact rfl;exact rfl;exact ic;(focus ((conv=>lhs;whnf);(first|done|fail))))
   |((with_reducible apply NW);exact rfl;exact rfl;exact rfl;exact ic;(focus ((conv=>lhs;whnf);(first|done|fail))))
   |((with_reducible apply ajX);exact rfl;exact rfl;exact rfl;exact ic;(focus ((conv=>lhs;whnf);(first|done|fail))))
   |((with_reducible apply YM);exact rfl;exact rfl;exact rfl;exact ic;(focus ((conv=>lhs;whnf);(first|done|fail))))
   |((with_reducible apply akk);exact rfl;exact rfl;(focus ((conv=>lhs;whnf);(first|done|fail)));(focus ((conv=>lhs;whnf);(first|done|fail)));exact rfl;exact dV;(focus ((conv=>lhs;whnf);(first|done|fail))))
   |((with_reducible apply aj1);exact rfl;exact rfl;(focus ((conv=>lhs;whnf);(first|done|fail)));exact ic)
   |((with_reducible apply aj2);exact rfl;exact rfl;(focus ((conv=>lhs;whnf);(first|done|fail)));exact dV)
   |((with_reducible apply aka (re:=_::_));exact rfl;exact rfl;(focus ((first|((with_reducible apply Jl);(focus ((conv=>lhs;whnf);(first|done|fail))))|((with_reducible apply Jm);(focus ((conv=>lhs;whnf);(first|done|fail))))|((with_reducible apply Jq);exact rfl)|((with_reducible apply Js);exact rfl;exact rfl)|((with_reducible apply Jt);exact rfl;exact rfl)|((with_reducible apply Ju);exact rfl;exact rfl)|((with_reducible apply Jv);exact rfl;exact rfl)|((with_reducible apply Jw);exact rfl;exact rfl)|((with_reducible apply Jy);exact rfl;exact rfl)|((with_reducible apply Jp);exact rfl)|((with_reducible apply Jn);exact rfl;(focus ((conv=>lhs;whnf);(first|done|fail))))|((with_reducible apply Jo);exact rfl;(focus ((conv=>lhs;whnf);(first|done|fail))))|((with_reducible apply JA);exact rfl;(focus ((conv=>lhs;whnf);(first|done|fail))))|((with_reducible apply JB);exact rfl)|((with_reducible apply JC);exact rfl;(focus ((conv=>lhs;whnf);(first|done|fail))))|((with_reducible apply JD);exact rfl;(focus ((conv=>lhs;whnf);(first|done|fail))))|((with_reducible apply JE);(focus ((conv=>lhs;whnf);(first|done|fail))))|((with_reducible apply JF);exact rfl)|((with_reducible apply JG);exact rfl)|((with_reducible apply JH);exact rfl)|with_reducible exact Jr|((with_reducible apply JI);exact rfl;exact rfl;exact rfl)|((with_reducible apply JQ);exact rfl;exact rfl;(focus ((omega);(first|done|fail))))|((with_reducible apply Gg);exact rfl;exact rfl;(focus ((omega);(first|done|fail)));(focus ((omega);(first|done|fail))))|((with_reducible apply JJ);exact rfl;exact rfl;(focus ((omega);(first|done|fail)));(focus ((omega);(first|done|fail))))|((with_reducible apply D7);exact rfl;exact rfl;(focus ((omega);(first|done|fail)));(focus ((omega);(first|done|fail))))|((with_reducible apply Jz);exact rfl;exact rfl;(focus ((omega);(first|done|fail)));(focus ((omega);(first|done|fail))))|((with_reducible apply JL);exact rfl;exact rfl;(focus ((first|assumption|kernel_rfl);(first|done|fail))))|((with_reducible apply JM);exact rfl;exact rfl;(focus ((first|assumption|kernel_rfl);(first|done|fail))))|((with_reducible apply JN);exact rfl;exact rfl)|((with_reducible apply JO);exact rfl;exact rfl)|((with_reducible apply JP);exact rfl;exact rfl;(focus ((omega);(first|done|fail)));(focus ((omega);(first|done|fail)))));(first|done|fail)));(focus ((repeat (first|exact Eb|refine Ec rfl dV tv rfl ?_|refine Gh rfl ic tv rfl ?_|refine Gi rfl ic tv rfl ?_|refine Gj rfl dV tv rfl ?_|refine Gl rfl ic tv rfl ?_|refine Gm rfl ic tv rfl ?_));(first|done|fail))))
   |((with_reducible apply aj9 (re:=_::_));exact rfl;exact rfl;(focus ((conv=>lhs;whnf);(first|done|fail)));(focus ((conv=>lhs;whnf);(first|done|fail)));exact rfl;exact dV;(focus ((conv=>lhs;whnf);(first|done|fail)));(focus ((repeat (first|exact Eb|refine Ec rfl dV tv rfl ?_|refine Gh rfl ic tv rfl ?_|refine Gi rfl ic tv rfl ?_|refine Gj rfl dV tv rfl ?_|refine Gl rfl ic tv rfl ?_|refine Gm rfl ic tv rfl ?_));(first|done|fail))))
   |fail)
  |((with_reducible apply dD.all);intro _)
  |with_reducible apply dD.imp)
 with_reducible exact dD.refl _):p:=h
def go{G G':Prop}(x:G')(r:dD G G':=by exact Av):G:=r.h x
def qX{c:dH}{a:bB}(r:R (λh=>EV P c a h (Ca P (.loop c) K)) B w0 kl F):R (λh=>EV P (.loop c) a h K) B w0 kl F:=λw s=>
 .loop _ (r w s) (λ_ _ hm=>hm) (λo a' h' hm hn=>by
  exact nq)
def qj.sub{F0:ae α}:∀{F:ae α},qj F0 F->Sub F0 F:=λ{F} h=>by
 have:∀k:ae α,(∀x∈k,x∈F)->Sub k F:=by
  intro k;induction k with
  |nil=>intro _;exact .nil
  |cons a k ih=>intro hk;exact .cons (by grind) (ih (by grind))
 exact this F0 h.mem
inductive dW{α:Type}:List α->List α->List α->Prop
 |nil {l:List α}:dW [] l l
 |cons {a:α} {k l m:List α} (h:dW k l m):dW (a::k) l (a::m)
 |self {k:List α}:dW k [] k
 |app {k l:List α}:dW k l (k++l)
def dW.eq:∀{k l m:ae α},dW k l m->k++l=m
 |_,_,_,.nil=>rfl
 |_,_,_,.self=>iE _
 |_,_,_,.app=>rfl
 |_,_,_,.cons h=>by rw[fB,h.eq]
def YV(h:p:=by intro _ _;repeat (first|exact Eb|refine Ec rfl dV tv rfl ?_|refine Gh rfl ic tv rfl ?_|refine Gi rfl ic tv rfl ?_|refine Gj rfl dV tv rfl ?_|refine Gl rfl ic tv rfl ?_|refine Gm rfl ic tv rfl ?_|refine Tc AI rfl ?_)):p:=h
def rG(h:p:=by intro y;repeat (first|exact dW.nil|apply dW.cons|exact dW.self|exact dW.app)):p:=h
def NY(h:p:=by repeat (first|exact wL.nil|(apply wL.drop;exact rfl)|(apply wL.keep;exact rfl))):p:=h
def JR(h:p:=by repeat (first|exact dW.nil|apply dW.cons|exact dW.self|exact dW.app)):p:=h
def JS(h:p:=by repeat (first|exact trivial|refine⟨rfl,?_⟩)):p:=h
def NZ(h:p:=by dsimp only[uw,Nat.reduceAdd,List.append_nil,List.cons_append,List.nil_append]):p:=h
def YW(h:p:=by repeat (first|with_reducible exact EvL.nil|((with_reducible apply EvL.cons);(conv=>lhs;whnf)))):p:=h
def N7(h:p:=by conv=>lhs;(reduce;(try simp only[Int.reduceOfNat,Int.reduceNegSucc]))):p:=h
def YX(h:p:=by intro z y;repeat (first|exact dW.nil|apply dW.cons|exact dW.self|exact dW.app)):p:=h
def Gn(h:p:=by first|exact .inl rfl|exact .inr rfl):p:=h
def YY(h:p:=by repeat (first|exact qj.here|apply qj.cons|apply qj.app)):p:=h
section
variable {B:ae Nat} {w0:Wd} {kl kl' bM:ae OA} {F:ae aM} {K:KO} {ds:ae Tmp} {rest:ae bW} {n:Nat} {l:qr} {D:ae Deferred} {pm:ak FrameMode} {ro:ak Nat} {d:Nat} {g:ak (Tmp×Bool)}
variable{Y:Type}{vs:ae ah}
def fD{f:az}{xs:ae az}{re:ae iY}{fn:Fn}{first captured as:ae ah}{k1:ae OA}{F1:ae aM}{val:Y->ah}{k1':Y->ae OA}{fs:Y->ae aM}{pr:Y->Prop}{fq:Y->ae OA}{F2:Y->ae aM}
 (hc:bG P fn as captured k1 F1 val k1' fs pr) (hn:Nat.blt d n=true:=by rfl) (hg:bV l g=true:=by rfl) (hf:ev l f=.func fn ⟨first⟩ ⟨captured⟩:=by rfl) (hx:EvL (ev l) xs vs:=by exact YW) (ha:first++vs=as:=by rfl)
 (hk:aH k1 kl bM:=by exact nH) (hF:Sub F1 F:=by exact mK)
 (hak:∀y,dW (k1' y) bM (fq y):=by exact rG) (sM:∀y,dW (fs y) F (F2 y):=by exact rG)
 (hs:∀y,pr y->Same P re (ev ((d,val y)::l)) ((d,val y)::l) B w0 (fq y) (F2 y):=by exact YV)
 (next:∀y,pr y->R (λh=>aJ P ds rest (act n ((d,val y)::l) D pm ro) h K) B w0 (fq y) (F2 y)):
 R (λh=>aJ P ds (⟨⟨some d,g,.call f xs⟩,re⟩::rest) (act n l D pm ro) h K) B w0 kl F:=
 akb hc hn hg hf hx ha hk hF (λy hy=>by rw[(hak y).eq,(sM y).eq];exact hs y hy) (λy hy=>by rw[(hak y).eq,(sM y).eq];exact next y hy)
abbrev dF(P:Program)(f:fI)(args:ae ah)(F:ae aM)(v:ah):Prop:=bG P (.func f) args [] [] F (λ_:Unit=>v) (λ_=>[]) (λ_=>[]) (λ_=>True)
variable{l0:qr}{args cap:ae ah}{c:dH}{m:Nat}
def jD{f:fI}{kl:ae OA}{F:ae aM}{val:Y->ah}{kl':Y->ae OA}{fs:Y->ae aM}{pr:Y->Prop}(cf:iL)(hF:(ni P uk ul).F f=some cf)
 (hb:∀B w0,R (λh=>EV P c (act m l0 [] none none) h (zg cf (Left B w0 val kl' fs pr))) B w0 kl F)
 (h1:cf.body=c:=by exact N7) (h2:uh cf.ntmps (jq (args++cap))=m:=by conv=>lhs;whnf) (h3:uw 0 (args++cap) []=l0:=by exact NZ):bG P (.func f) args cap kl F val kl' fs pr:=
 aj7 cf hF (by grind)
def gB{kl:ae OA}{F:ae aM}{val:Y->ah}{kl':Y->ae OA}{fs:Y->ae aM}{pr:Y->Prop}(f:fI)(hb:∀B w0,R (λh=>EV P c (act m l0 [] none none) h (zg (qd P f) (Left B w0 val kl' fs pr))) B w0 kl F)(h:(lF P f).isSome=true:=by kernel_rfl)(h1:(qd P f).body=c:=by exact N7)(h2:uh (qd P f).ntmps (jq (args++cap))=m:=by conv=>lhs;whnf)(h3:uw 0 (args++cap) []=l0:=by exact NZ):bG P (.func f) args cap kl F val kl' fs pr:=jD _ (wC f h) hb h1 h2 h3
def Td{α:Type}(E:Enc α){x i:az}{v:ah}{xs:ae α}{size:Nat}{k:Nat}{kk:IntKind}{F2:α->E.Y->ae aM}(hn:Nat.blt d n=true:=by rfl)(hg:bV l g=true:=by rfl)(hx:ev l x=v:=by conv=>lhs;whnf)(hi:ev l i=.int kk (k:Int):=by rfl)
 (hf:aj E v xs∈F:=by exact ic) (hs:E.n=size:=by rfl) (h1:k<xs.length:=by omega)
 (ha:∀z y,dW (E.fs z y) F (F2 z y):=by exact YX)
 (next:∀b o z y,xs[k]? =some z->R (λh=>aJ P ds rest (act n ((d,.pointer (some ⟨b,o,none⟩))::l) D pm ro) h K) B w0 kl (dO b o (E.pat z y)::F2 z y)):
 R (λh=>aJ P ds (⟨⟨some d,g,.jv size x i⟩,[]⟩::rest) (act n l D pm ro) h K) B w0 kl F:=
 (S9 hn hg hx hi hf hs tf tf).h λb o z y hz=>by rw[(ha z y).eq];exact next b o z y As
def fu{o:Out}{cf:iL}{val:Y->ah}{k1:Y->ae OA}{fs:Y->ae aM}{pr:Y->Prop}(y:Y)
 (hr:RS l kl cf.results vs:=by exact Au) (hv:sK vs=val y:=by rfl) (hp:pr y)
 (hk:aH (k1 y) kl bM:=by exact nH) (hF:Sub (fs y) F:=by exact mK)
 (ho:o=.normal\/o=.ret:=by exact Gn):R (λh=>zg cf (Left B w0 val k1 fs pr) o (act n l [] none ro) h) B w0 kl F:=
 YU y hr hv hp hk hF ho
def uy{A:OA}{fs F2:ae aM}{Q:IH->Prop}(hA:qV A fs)(hk:aB A kl kl':=by exact dV)(ha:dW fs F F2:=by exact JR)(h:R Q B w0 kl' F2):R Q B w0 kl F:=
 aj4 hA hk (by rw[ha.eq];exact h)
variable{X:Type}
def di{c:dH}{L2:X->qr}{yf:X->ae OA}{yj:X->ae aM}(m:X->Nat)(L:X->qr)(KL:X->ae OA)(FF:X->ae aM)(inv:X->Prop)(x0:X)(hi:inv x0)
 (h0:wL l (L x0) l0:=by exact NY) (hl:sub (L x0++l0) l:=by exact JS)
 (hk:aH (KL x0) kl bM:=by exact nH) (hF:Sub (FF x0) F:=by exact mK)
 (hak:∀x,dW (KL x) bM (yf x):=by exact rG) (sM:∀x,dW (FF x) F (yj x):=by exact rG)
 (hal:∀x,dW (L x) l0 (L2 x):=by exact rG)
 (body:∀x,inv x->R (λh=>EV P c (act n (L2 x) D pm ro) h (x8 (LI n D pm ro B w0 m L KL FF inv l0 bM F) (m x) K)) B w0 (yf x) (yj x)):
 R (λh=>EV P (.loop c) (act n l D pm ro) h K) B w0 kl F:=
 akc m L KL FF inv x0 hi l0 hl hk hF λx hx=>by rw[(hak x).eq,(sM x).eq,(hal x).eq];exact body x hx
def aO{m:X->Nat}{L:X->qr}{KL:X->ae OA}{FF:X->ae aM}{inv:X->Prop}{JU fq:ae OA}{F0:ae aM}{m0:Nat}(x:X)(hm:m x<m0)(hi:inv x)
 (hl:sub (L x++l0) l:=by exact JS) (ha:dW (KL x) bM JU:=by exact JR)
 (hk:aH JU kl fq:=by exact nH) (hF:Sub (FF x) F:=by exact mK)
 (Ar:qj F0 F:=by exact YY):
 R (λh=>x8 (LI n D pm ro B w0 m L KL FF inv l0 bM F0) m0 K .normal (act n l D pm ro) h) B w0 kl F:=
 akd x hm hi hl (by rw[ha.eq];exact hk) hF Ar
end
end Go.Ideal
namespace Go.Ideal
class Ci (e:Bool) (f t:outParam Prop):Prop where
 no:e=false->f
 yes:e=true->t
instance (priority:=low) awe {e:Bool}:Ci e (e=false) (e=true):=⟨id,id⟩
instance awf {p:Prop} {_:Decidable p}:Ci (decide p) (¬p) p:=⟨ou,iN⟩
instance awg {p:Prop} {_:Decidable p}:Ci (!decide p) p (¬p):=⟨λe=>by simpa using e,λe=>by simpa using e⟩
section
variable {P:Program}
variable {B:ae Nat} {w0:Wd} {kl:ae OA} {F:ae aM} {K:KO} {ds:ae Tmp} {rest:ae bW} {n:Nat} {l:qr} {D:ae Deferred} {pm:ak FrameMode} {ro:ak Nat} {t1 t2:Nat}
def gG{e:Bool}{f t:Prop}[Ci e f t](h1:f->R (λh=>aJ P ds rest (act n ((t1,.bool false)::(t2,.bool false)::l) D pm ro) h K) B w0 kl F)(h2:t->R (λh=>aJ P ds rest (act n ((t1,.bool true)::(t2,.bool true)::l) D pm ro) h K) B w0 kl F):
 R (λh=>aJ P ds rest (act n ((t1,.bool e)::(t2,.bool e)::l) D pm ro) h K) B w0 kl F:=
 nW (λx=>h1 (Ci.no x)) (λx=>h2 (Ci.yes x))
end
section
instance awh {n:Nat}:OfNat az n:=⟨.tmp n⟩
abbrev kT:az:=.const (.bool true)
abbrev vS:ah:=.slice none 0 0
abbrev vE:ah:=.string ⟨⟨[]⟩⟩
abbrev kC(f:Nat)(l:ae az):aK:=.call (.func f) l
abbrev kS(n:Nat)(e:aK):bW:=⟨⟨some n,none,e⟩,[]⟩
abbrev kH(n c:Nat)(e:aK):bW:=⟨⟨some n,some ⟨c,false⟩,e⟩,[]⟩
abbrev kN(e:aK):bW:=⟨⟨none,none,e⟩,[]⟩
abbrev kM(n:Nat)(x:az):bW:=kS n (.mv x)
abbrev kO(l:ae bW):dH:=.ops (l.filterMap λx=>x.s.dst) l
end
variable {P:Program}
section
variable {B:ae Nat} {w0:Wd} {kl kl' bM:ae OA} {F:ae aM} {K:KO} {ds:ae Tmp} {rest:ae bW} {n:Nat} {l:qr} {D:ae Deferred} {pm:ak FrameMode} {ro:ak Nat} {d:Nat} {g:ak (Tmp×Bool)}
variable{G:Prop}
def aC{c:az}{x y:dH}{p:Prop}{ip:Decidable p}(h1:p->R (λh=>EV P x (act n l D pm ro) h K) B w0 kl F)(h2:¬p->R (λh=>EV P y (act n l D pm ro) h K) B w0 kl F)
 (r:dD G (R (λh=>EV P (.cond c x y) (act n l D pm ro) h K) B w0 kl F):=by exact Av) (hc:ev l c=.bool (decide p):=by exact rfl):G:=r.h (kW hc h1 h2)
variable{o:Out}{cf:iL}{vs:ae ah}{val:Unit->ah}{k1:Unit->ae OA}{fs:Unit->ae aM}{pr:Unit->Prop}
def aP(hv:sK vs=val ())(r:dD G (R (λh=>zg cf (Left B w0 val k1 fs pr) o (act n l [] none ro) h) B w0 kl F):=by exact Av)(hr:RS l kl cf.results vs:=by exact Au)(hp:pr ():=by exact trivial)(hk:aH (k1 ()) kl bM:=by exact nH)(hF:Sub (fs ()) F:=by exact mK)(ho:o=.normal\/o=.ret:=by exact Gn):G:=r.h (fu () (hr:=hr) (hv:=hv) (hp:=hp) (hk:=hk) (hF:=hF) (ho:=ho))
def fQ(r:dD G (R (λh=>zg cf (Left B w0 val k1 fs pr) o (act n l [] none ro) h) B w0 kl F):=by exact Av)(hr:RS l kl cf.results vs:=by exact Au)(hv:sK vs=val ():=by exact rfl)(hp:pr ():=by exact trivial)(hk:aH (k1 ()) kl bM:=by exact nH)(hF:Sub (fs ()) F:=by exact mK)(ho:o=.normal\/o=.ret:=by exact Gn):G:=r.h (fu () (hr:=hr) (hv:=hv) (hp:=hp) (hk:=hk) (hF:=hF) (ho:=ho))
variable{Y:Type}
def gC
 {f:az}
 {xs:ae az}
 {re:ae iY}
 {fn:Fn}
 {first captured vs as:ae ah}
 {k1:ae OA}
 {F1:ae aM}
 {val:Y->ah}
 {k1':Y->ae OA}
 {fs:Y->ae aM}
 {pr:Y->Prop}
 {fq:Y->ae OA}
 {F2:Y->ae aM}
 (hc:bG P fn as captured k1 F1 val k1' fs pr)
 (next:∀y,pr y->R (λh=>aJ P ds rest (act n ((d,val y)::l) D pm ro) h K) B w0 (fq y) (F2 y))
 {G:Prop} (r:dD G (R (λh=>aJ P ds (⟨⟨some d,g,.call f xs⟩,re⟩::rest) (act n l D pm ro) h K) B w0 kl F):=by exact Av)
 (hn:Nat.blt d n=true:=by rfl)
 (hg:bV l g=true:=by rfl)
 (hf:ev l f=.func fn ⟨first⟩ ⟨captured⟩:=by rfl)
 (hx:EvL (ev l) xs vs:=by exact YW)
 (ha:first++vs=as:=by rfl)
 (hk:aH k1 kl bM:=by exact nH)
 (hF:Sub F1 F:=by exact mK)
 (hak:∀y,dW (k1' y) bM (fq y):=by exact rG)
 (sM:∀y,dW (fs y) F (F2 y):=by exact rG)
 (hs:∀y,pr y->Same P re (ev ((d,val y)::l)) ((d,val y)::l) B w0 (fq y) (F2 y):=by exact YV):G:=r.h (fD (hc:=hc) (hn:=hn) (hg:=hg) (hf:=hf) (hx:=hx) (ha:=ha) (hk:=hk) (hF:=hF) (hak:=hak) (sM:=sM) (hs:=hs) (next:=next))
variable{α:Type}
def gX
 {x i:az}
 {v:ah}
 {xs:ae α}
 {size:Nat}
 {k:Nat}
 {kk:IntKind}
 (E:Enc α)
 {F2:α->E.Y->ae aM}
 (next:∀b o z y,xs[k]? =some z->R (λh=>aJ P ds rest (act n ((d,.pointer (some ⟨b,o,none⟩))::l) D pm ro) h K) B w0 kl (dO b o (E.pat z y)::F2 z y))
 {G:Prop} (r:dD G (R (λh=>aJ P ds (⟨⟨some d,g,.jv size x i⟩,[]⟩::rest) (act n l D pm ro) h K) B w0 kl F):=by exact Av)
 (hn:Nat.blt d n=true:=by rfl)
 (hg:bV l g=true:=by rfl)
 (hx:ev l x=v:=by conv=>lhs;whnf)
 (hi:ev l i=.int kk (k:Int):=by rfl)
 (hf:aj E v xs∈F:=by exact ic)
 (hs:E.n=size:=by rfl)
 (h1:k<xs.length:=by omega)
 (ha:∀z y,dW (E.fs z y) F (F2 z y):=by exact YX):G:=r.h (Td (E:=E) (hn:=hn) (hg:=hg) (hx:=hx) (hi:=hi) (hf:=hf) (hs:=hs) (h1:=h1) (ha:=ha) (next:=next))
def gQ
 {o:Out}
 {cf:iL}
 {vs:ae ah}
 {val:Y->ah}
 {k1:Y->ae OA}
 {fs:Y->ae aM}
 {pr:Y->Prop}
 (y:Y)
 (hp:pr y)
 (hr:RS l kl cf.results vs:=by exact Au)
 (hv:sK vs=val y:=by rfl)
 (hk:aH (k1 y) kl bM:=by exact nH)
 (hF:Sub (fs y) F:=by exact mK)
 (ho:o=.normal\/o=.ret:=by exact Gn):R (λh=>zg cf (Left B w0 val k1 fs pr) o (act n l [] none ro) h) B w0 kl F:=fu (y:=y) (hr:=hr) (hv:=hv) (hp:=hp) (hk:=hk) (hF:=hF) (ho:=ho)
def gL{X:Type}
 {c:dH}
 {l0:qr}
 {L2:X->qr}
 {yf:X->ae OA}
 {yj:X->ae aM}
 (m:X->Nat) (L:X->qr) (inv:X->Prop) (x0:X) (hi:inv x0)
 (body:∀x,inv x->R (λh=>EV P c (act n (L2 x) D pm ro) h (x8 (LI n D pm ro B w0 m L (λ_=>[]) (λ_=>[]) inv l0 bM F) (m x) K)) B w0 (yf x) (yj x))
 {G:Prop} (r:dD G (R (λh=>EV P (.loop c) (act n l D pm ro) h K) B w0 kl F):=by exact Av)
 (h0:wL l (L x0) l0:=by exact NY)
 (hl:sub (L x0++l0) l:=by exact JS)
 (hk:aH ([]) kl bM:=by exact nH)
 (hF:Sub ([]) F:=by exact mK)
 (hak:∀x,dW ([]) bM (yf x):=by exact rG)
 (sM:∀x,dW ([]) F (yj x):=by exact rG)
 (hal:∀x,dW (L x) l0 (L2 x):=by exact rG):G:=r.h (di (m:=m) (L:=L) (KL:=λ_=>[]) (FF:=λ_=>[]) (inv:=inv) (x0:=x0) (hi:=hi) (h0:=h0) (hl:=hl) (hk:=hk) (hF:=hF) (hak:=hak) (sM:=sM) (hal:=hal) (body:=body))
def gN{c:dH}
 {l0:qr}
 {L2:Nat->qr}
 {yf:Nat->ae OA}
 {yj:Nat->ae aM}
 (N q:Nat) (inv:Nat->Prop) (hi:inv 0)
 (body:∀x,inv x->R (λh=>EV P c (act n (L2 x) D pm ro) h (x8 (LI n D pm ro B w0 (λk=>N - k) (λk:Nat=>[(q,.int .i64 (k:Int))]) (λ_=>[]) (λ_=>[]) inv l0 bM F) (N - x) K)) B w0 (yf x) (yj x))
 {G:Prop} (r:dD G (R (λh=>EV P (.loop c) (act n l D pm ro) h K) B w0 kl F):=by exact Av)
 (h0:wL l ([(q,.int .i64 ((0:Nat):Int))]) l0:=by exact NY)
 (hl:sub ([(q,.int .i64 ((0:Nat):Int))]++l0) l:=by exact JS)
 (hk:aH ([]) kl bM:=by exact nH)
 (hF:Sub ([]) F:=by exact mK)
 (hak:∀x,dW ([]) bM (yf x):=by exact rG)
 (sM:∀x,dW ([]) F (yj x):=by exact rG)
 (hal:∀x,dW ([(q,.int .i64 (x:Int))]) l0 (L2 x):=by exact rG):G:=r.h (di (m:=(λk=>N - k)) (L:=(λk:Nat=>[(q,.int .i64 (k:Int))])) (KL:=λ_=>[]) (FF:=λ_=>[]) (inv:=inv) (x0:=(0:Nat)) (hi:=hi) (h0:=h0) (hl:=hl) (hk:=hk) (hF:=hF) (hak:=hak) (sM:=sM) (hal:=hal) (body:=body))
variable{Q:IH->Prop}
def gF(E:Enc α)(v:ah)(xs:ae α)(h:∀a c,v=.slice a xs.length c->R Q B w0 kl F)(hf:aj E v xs∈F:=by exact ic):R Q B w0 kl F:=aki hf h
variable{F2:ae aM}
def gZ{A:OA}{fs:ae aM}(hA:qV A fs)(h:R Q B w0 kl' F2)(hk:aB A kl kl':=by exact dV)(ha:dW fs F F2:=by exact JR):R Q B w0 kl F:=uy hA hk ha h
def gP{cs:ae ah}(b:Nat)(h:R Q B w0 kl' F2)(hk:aB (pt b (.cells cs)) kl kl':=by exact dV)(ha:dW [dO b 0 cs] F F2:=by exact JR):R Q B w0 kl F:=uy ajq hk ha h
def gH{t1 t2:Nat}{e:Bool}{f t:Prop}(h1:f->R (λh=>aJ P ds rest (act n ((t1,.bool false)::(t2,.bool false)::l) D pm ro) h K) B w0 kl F)(h2:t->R (λh=>aJ P ds rest (act n ((t1,.bool true)::(t2,.bool true)::l) D pm ro) h K) B w0 kl F)
 (r:dD G (R (λh=>aJ P ds rest (act n ((t1,.bool e)::(t2,.bool e)::l) D pm ro) h K) B w0 kl F):=by exact Av) (i:Ci e f t:=by exact inferInstance):G:=r.h (have _q:Ci e f t:=i;gG h1 h2)
abbrev iV(n:Int):ah:=.int .i64 n
abbrev fC(P:Program){Y:Type}(f:fI)(args:ae ah)(F:ae aM)(v:Y->ah)(Q:Y->Prop):Prop:=bG P (.func f) args [] [] F v (λ_=>[]) (λ_=>[]) Q
end
end Go.Ideal
namespace Go.Ideal
noncomputable def N8(L:Lay):Wd:=⟨l7 L,λi=>i<(l7 L).next,λ_ h=>h⟩
open Go.ChangeShapes Go.WideShapes Go.ChangeAt Go.RowKit
variable {P:Program}
def Gp{α:Type}(P:Program)(t:aF)(E:Enc α):Prop:=∀(w:Wd) (H:Type) (d:DataW H) (cs:ae ah),(∀i,i<w.h.next->w.z i)->ji P w.h t cs d->∃a y,cs=E.pat a y/\∀f∈E.fs a y,f.p w
def Te{α:Type}{p:Nat->α->Prop}:∀n,(∀k,k<n->∃a,p k a)->∃l:ae α,l.length=n/\∀(k:Nat) a,l[k]? =some a->p k a
 |0,_=>⟨[],rfl,λk a h=>by cases h⟩
 |n+1,h=>by
  obtain⟨l,h1,h2⟩:=Te n (λk hk=>h k tf);obtain⟨a,ha⟩:=h n tf;refine⟨l++[a],by simp[h1],λk b hb=>?_⟩
  grind
def YZ{α β:Type}(E1:Enc α)(E2:Enc β):Enc (α×β):=⟨E1.n+E2.n,E1.Y×E2.Y,λa y=>E1.pat a.1 y.1++E2.pat a.2 y.2,λa y=>E1.fs a.1 y.1++E2.fs a.2 y.2,λa y=>by rw[fV,E1.len,E2.len]⟩
def Y0:Enc Unit:=⟨0,Unit,λ_ _=>[],λ_ _=>[],λ_ _=>rfl⟩
inductive Gq(P:Program):{α:Type}->List Field->Enc α->Prop
 |nil:Gq P [] Y0
 |cons {α β:Type} {f:Field} {fs:List Field} {E1:Enc α} {E2:Enc β} (h:Gp P f.type E1) (hn:P.cellsOf f.type=E1.n) (t:Gq P fs E2):Gq P (f::fs) (YZ E1 E2)
def Gq.N9{w:Wd}{H:Type}(hz:∀i,i<w.h.next->w.z i):∀{α:Type} {fs:ae Field} {E:Enc α},Gq P fs E->∀(o0:Nat) (cs:ae ah) (ds:ae (DataW H)),cs.length=(fs.map λf=>P.cellsOf f.type).sum->ds.length=fs.length->
 fs.map (·.offset)=sums o0 (fs.map λf=>P.cellsOf f.type)->(∀(j:Nat) f d,fs[j]? =some f->ds[j]? =some d->ji P w.h f.type ((cs.drop (f.offset - o0)).take (P.cellsOf f.type)) d)->∃a y,cs=E.pat a y/\∀f∈E.fs a y,f.p w
 |_,_,_,.nil,o0,cs,ds,h1,h2,h3,h4=>⟨(),(),lW.1 tU,λf hf=>by cases hf⟩
 |_,_,_,.cons (f:=f) (fs:=fs) (E1:=E1) (E2:=E2) h hn t,o0,cs,ds,h1,h2,h3,h4=>by
  match ds,h2 with
  |d::ds,h2=>
   simp only[kv,List.sum_cons,sums,List.cons.injEq]at h1 h3;obtain⟨ho,h3⟩:=h3;have r0:=h4 0 f d rfl rfl;rw[ho,tQ,wh]at r0;obtain⟨a,y,q1,q2⟩:=h w H d _ hz r0;obtain⟨b,z,u1,u2⟩:=Gq.N9 hz t (o0+P.cellsOf f.type) (cs.drop (P.cellsOf f.type)) ds (by grind) wA h3 (λj g e hg he=>by
    exact da)
   refine⟨(a,b),(y,z),?_,?_⟩
   .show cs=E1.pat a y++E2.pat b z;rw[<- q1,<- u1,si]
   .exact pZ
def Gp.conv{α β:Type}{t:aF}{E:Enc α}{E':Enc β}(h:Gp P t E)(hc:∀a y,∃b z,E.pat a y=E'.pat b z/\E.fs a y=E'.fs b z):Gp P t E':=λw H d cs hz r=>by
 obtain⟨a,y,q1,q2⟩:=h w H d cs hz r;obtain⟨b,z,e1,e2⟩:=hc a y
 grind
section
variable {H:Type} {enc:aF×ah->H} {W:World} {K:aF->Prop}
def zo(P:Program)(w:Wd)(t:aF)(v:ah){H:Type}(d:DataW H):Prop:=∃cs,ji P w.h t cs d/\((lD P t=true/\v=.agg ⟨cs⟩)\/(lD P t=false/\cs=[v]))
variable{α:Type}{w:Wd}{t:aF}{v:ah}{d:DataW H}
def zo.agg{E:Enc α}(h:zo P w t v d)(hz:∀i,i<w.h.next->w.z i)(ha:lD P t=true)(hr:Gp P t E):∃a y,v=.agg ⟨E.pat a y⟩/\∀f∈E.fs a y,f.p w:=by
 exact mA
def zo.one{E:Enc α}(h:zo P w t v d)(hz:∀i,i<w.h.next->w.z i)(ha:lD P t=false)(hr:Gp P t E):∃a y,E.pat a y=[v]/\∀f∈E.fs a y,f.p w:=by
 exact mw
variable{L:Lay}
def akm{v0:ah}(hw:w.h=l7 L)(r:Cg P (l7 L) t v d)(hv:VR (kV L) v v0)(hok:Value.okWide P W .any 0 t v0):zo P w t v d:=by
 obtain⟨cs,r1,h2,h3⟩:=r;refine⟨cs,by rw[hw];exact r1,?_⟩;cases ha:lD P t with
 |true=>
  left;refine⟨rfl,?_⟩;rcases h3 with e|e
  .subst e;have hagg:∃c,v0=.agg c:=by
    unfold lD at ha;unfold Value.okWide at hok
    grind
   obtain⟨c,rfl⟩:=hagg;cases hv<;>simp[cellV]at h2
  .exact e
 |false=>
  right;refine⟨rfl,?_⟩;rcases h3 with e|e
  .exact e
  .subst e;cases hv with
   |agg hc hl=>
    cases hu:P.underlying t with
    |none=>simp[Value.okWide,Cell.okWide,Cell.ok,hu]at hok
    |some d=>cases d<;>simp[Value.okWide,Cell.okWide,Cell.ok,lD,hu]at hok ha
def akn{ts:ae aF}{vs' vs:ae ah}(hv:aY (kV L) vs' vs):∀(j:Nat) v',vs'[j]? =some v'->∃v,vs[j]? =some v/\VR (kV L) v' v:=by
 intro j;induction j generalizing vs' vs with
 |zero=>
  intro v' h;cases hv with
  |nil=>cases h
  |cons h1 h2=>grind
 |succ j ih=>
  intro v' h;cases hv with
  |nil=>cases h
  |cons h1 h2=>exact ih h2 v' h
def Y1{a:Nat}{b:Nat->Bool}{c:Bool}:∀{ts:ae aF} {vs:ae ah} {ds:ae (DataW H)} {ps:ae MemPlace},DataW.TrodAll enc P W a b c ts vs ds ps->vs.length=ts.length/\ds.length=ts.length
 |[],[],[],_,_=>⟨rfl,rfl⟩
 |_::_,_::_,_::_,_,⟨_,_,_,h,_⟩=>by
  have:=Y1 h;simp[this.1,this.2]
def Y2{l:ae α}(h:l.length=3):∃a b c,l=[a,b,c]:=by
 match l,h with
 |[a,b,c],_=>grind
end
end Go.Ideal
namespace Go.Ideal
variable {P:Program}
def vB(P:Program)(cf:iL)(K:KR):KO:=λo a h=>match xM o with
 |none=>False
 |some m=>LEAVE P cf a.tmps a.defers m h λr h''=>K r a.pm h''
def ako{Y:Type}{f:fI}{args cap:ae ah}{kl:ae OA}{F:ae aM}{val:Y->ah}{kl':Y->ae OA}{fs:Y->ae aM}{pr:Y->Prop}{c:dH}{m:Nat}{l0:qr}(cf:iL)(hF:(ni P uk ul).F f=some cf)
 (hb:∀B w0,R (λh=>EV P c (act m l0 [] none none) h (vB P cf (Left B w0 val kl' fs pr))) B w0 kl F)
 (h1:cf.body=c:=by exact N7) (h2:uh cf.ntmps (jq (args++cap))=m:=by conv=>lhs;whnf) (h3:uw 0 (args++cap) []=l0:=by exact NZ):bG P (.func f) args cap kl F val kl' fs pr:=by
 intro B w s;obtain⟨fn,e1,e2⟩:=(uu P uk ul (λf q h v h' hm=>by cases hm)).fn f cf hF;refine Yy cf fn e1 e2 ?_;rw[Ta,h1,h2,h3];exact hb B w w s
section
variable {B:ae Nat} {w0:Wd} {kl kl' bM:ae OA} {F:ae aM} {K:KO} {n:Nat} {l:qr} {D:ae Deferred} {pm:ak FrameMode} {ro:ak Nat}
inductive lM:List OA->List Deferred->List OA->Prop
 |nil {kl:List OA}:lM kl [] kl
 |cons {kl kl' fq:List OA} {r:Nat} {args:Array Value} {D:List Deferred} (h:aB (pt r (.lC true)) kl kl') (t:lM kl' D fq):lM kl ({target:=.collected r,args}::D) fq
def lM.leave{cf:iL}{ts:T ah}{Kr:jy->IH->Prop}:∀{D:ae Deferred} {kl fq:ae OA},lM kl D fq->(∀w',St B w0 fq F w'->∃v,uj cf.results ts w'.h=some v/\Kr (.ok v) w'.h)->∀w,St B w0 kl F w->LEAVE P cf ts D .returning w.h Kr
 |_,_,_,.nil,hk,w,s=>by
  obtain⟨v,h1,h2⟩:=hk w s;exact .ret v h1 h2
 |_,_,_,.cons (r:=r) h t,hk,w,s=>by
  have s1:=s.gz h;refine .coll x6 r s1.get.1 ?_;exact lM.leave t hk _ (s1.write).tail
variable{Y:Type}{o:Out}{fq:ae OA}
def akp{cf:iL}{vs:ae ah}{val:Y->ah}{k1:Y->ae OA}{fs:Y->ae aM}{pr:Y->Prop}(y:Y)(hD:lM kl D fq)(hr:RS l fq cf.results vs)(hv:sK vs=val y)(hp:pr y)(hk:aH (k1 y) fq bM)(hF:Sub (fs y) F)
 (ho:o=.normal\/o=.ret):R (λh=>vB P cf (Left B w0 val k1 fs pr) o (act n l D none ro) h) B w0 kl F:=by
 intro w s;have key:LEAVE P cf (jC l) D .returning w.h λr h''=>Left B w0 val k1 fs pr r none h'':=by
  refine lM.leave hD (λw' s'=>⟨val y,?_,rfl,w',y,rfl,((s'.lK hk).drop).sub hF,rfl,hp⟩) w s;unfold uj;rw[hr.all s',<- hv];exact ph
 rcases ho with rfl|rfl
 .exact key
 .exact key
def Aw(L:qy):qy:={L with state:=.busy}
def rH(L:qy)(o:Out):qy:=match o with
 | .normal=>{L with state:=.ready,pending:=none}
 |o=>{L with state:=.done,pending:=some o}
def vC(o:Out):Bool:=match o with
 | .normal=>true
 |_=>false
def Ed(o:Out):Prop:=match o with
 | .panic _=>False
 |_=>True
def Ee{Y:Type}(B:ae Nat)(w0:Wd)(lo:Nat)(L:qy)(out:Y->Out)(k1:Y->ae OA)(fs:Y->ae aM)(pr:Y->Prop):KO:=λo a h=>
 a.defers=[]/\∃(w:Wd) (y:Y),w.h=h/\o=out y/\Ed o/\St B w0 (pt lo (.loop (Aw L))::k1 y) (fs y) w/\pr y
def akq{lo:Nat}{L:qy}{out:Y->Out}{k1:Y->ae OA}{fs:Y->ae aM}{pr:Y->Prop}(y:Y)(ho:o=out y)(hn:Ed o)(hp:pr y)(hk:aH (pt lo (.loop (Aw L))::k1 y) kl fq)(hF:Sub (fs y) F):
 R (λh=>Ee B w0 lo L out k1 fs pr o (act n l [] none ro) h) B w0 kl F:=λw s=>⟨rfl,w,y,rfl,ho,hn,((s.lK hk).drop).sub hF,hp⟩
def Y3(n:Nat):∀(ps:ae Tmp) (args:ae ah) (l:qr),ps.all (λp=>Nat.blt p n)=true->ps.length=args.length->∃l2,BK n ps args (jC l)=jC l2/\l2=(ps.zip args).reverse++l
 |[],[],l,_,_=>⟨l,rfl,rfl⟩
 |p::ps,v::args,l,h,e=>by
  simp only[MQ,eU]at h;obtain⟨l2,h1,h2⟩:=Y3 n ps args ((p,v)::l) h.2 wv;refine⟨l2,?_,by rw[h2];simp⟩;rw[<- h1];show BK n ps args (cond (Nat.blt p n) ((jC l).set p (some v)) (jC l))=_;rw[h.1];rfl
def Y4{f:az}{ps:ae Tmp}{assign body:dH}{fn:Fn}{first captured:ae ah}{k1:ae OA}{F1:ae aM}{Oa:Y->ah}{out:Y->Out}{k1':Y->ae OA}{fs:Y->ae aM}{pr:Y->Prop}
 (hf:ev l f=.func fn ⟨first⟩ ⟨captured⟩)
 (it:∀lo r,bG P fn (first++[.func (.yield lo) #[] #[]]) captured (pt lo (.loop ⟨.ready,none,jC l,n,ps,assign,body,r⟩)::k1) F1 Oa (λy=>pt lo (.loop (rH ⟨.ready,none,jC l,n,ps,assign,body,r⟩ (out y)))::k1' y) fs pr)
 (hk:aH k1 kl bM) (hF:Sub F1 F)
 (next:∀r y,pr y->R (λh=>K (out y) (act n l ({target:=.collected r,args:= #[]}::D) pm none) h) B w0 (k1' y++(pt r (.lC true)::bM)) (fs y++F)):
 R (λh=>EV P (.rangeFunc f ps assign body) (act n l D pm none) h K) B w0 kl F:=by
 intro w s;let L:Nat->qy:=λr=>⟨.ready,none,jC l,n,ps,assign,body,r⟩
 let r:=w.h.next
 let w1:=w.new (.lC true)
 have s1:St B w0 (pt r (.lC true)::kl) F w1:=s.new _;let lo:=w1.h.next
 let w2:=w1.new (.loop (L r))
 have s2:St B w0 (pt lo (.loop (L r))::pt r (.lC true)::kl) F w2:=s1.new _;have s3:=s2.lK (.cons .here (by
  have:∀{k kl bM:ae OA} (A:OA),aH k kl bM->aH k (A::kl) (A::bM):=by
   intro k kl bM A h;exact pA
  exact this _ hk))
 obtain⟨S,h1,h2,h3⟩:=s3.own;obtain⟨S1,S2,q1,q2,hp⟩:=h1.lK (by
  have:∀(k kr:ae OA),aH k (k++kr) kr:=by
   intro k kr;induction k with
   |nil=>exact .nil
   |cons A k ih=>exact .cons .here ih
  exact this _ _)
 have st1:St S1 w2 (pt lo (.loop (L r))::k1) F1 w2:=⟨⟨bI _,λ_ _ _=>rfl,λ_ _=>rfl⟩,Wd.Le.refl w2,λi _ hz=>.inl hz,(by grind),λf hf=>s2.facts f (hF.mem f hf)⟩
 have hc:=it lo r S1 w2 st1;refine .rangeFunc fn first captured (by rw[qi];exact hf) (act n l ({target:=.collected r,args:= #[]}::D) pm none) w1.h r (.inl ⟨rfl,rfl,rfl,rfl⟩) (Left S1 w2 Oa (λy=>pt lo (.loop (rH (L r) (out y)))::k1' y) fs pr) ?_ ?_ ?_
 .rw[jO];exact hc
 .rintro v pm' h' ⟨rfl,w',y,rfl,c,hv,hpr⟩;have sc:=s3.call (k1:=pt lo (.loop (L r))::k1) (F1:=F1) ⟨S,hp,h2,h3⟩ q2 c;have hg:=(sc).get;refine⟨rH (L r) (out y),hg.1,?_,?_⟩
  .cases out y<;>simp[rH]
  .have e:(rH (L r) (out y)).pending.getD .normal=out y:=by cases out y<;>rfl
   rw[e];exact next r y hpr _ (St.write sc).tail
 .rintro ch pm' h' ⟨rfl,w',y,rfl,c,hv,hpr⟩;cases hv
end
end Go.Ideal
namespace Go.Ideal
variable {P:Program}
def jG{S α:Type}(step:S->α->S×Bool):S->ae α->S
 |s,[]=>s
 |s,x::xs=>match step s x with
  |(s',true)=>jG step s' xs
  |(s',false)=>s'
def kz{S α:Type}(step:S->α->S×Out):S->ae α->S×Out
 |s,[]=>(s,.normal)
 |s,x::xs=>match step s x with
  |(s',.normal)=>kz step s' xs
  |(s',o)=>(s',o)
def Sub.refl'{α:Type}:∀(l k:ae α),Sub l (k++l)
 |[],_=>.nil
 |a::l,k=>.cons (by grind) (by have:=Sub.refl' l (k++[a]);grind)
def Sub.app{α:Type}:∀{k1 k2 l:ae α},Sub k1 l->Sub k2 l->Sub (k1++k2) l
 |_,_,_,.nil,h=>h
 |_,_,_,.cons h h1,h2=>.cons h (h1.app h2)
section
variable {B:ae Nat} {w0:Wd} {kl kl' bM:ae OA} {F:ae aM} {K:KO} {n:Nat} {l:qr} {D:ae Deferred} {pm:ak FrameMode} {ro:ak Nat}
def Tf{S α:Type}{step:S->α->S×Out}:∀(xs:ae α) (s:S),jG (λ(so:S×Out) x=>(step so.1 x,vC (step so.1 x).2)) (s,Out.normal) xs=kz step s xs
 |[],s=>rfl
 |x::xs,s=>by
  have ih:=Tf (step:=step) xs;simp only[jG,kz];cases h:step s x with
  |mk s' o=>
   cases o with
   |normal=>exact ih s'
   |_=>simp only[vC]
end
end Go.Ideal
namespace Go.Ideal
variable {P:Program} {ρ:az->ah}
def wrapN{m:Nat}(h:m<9223372036854775808):IntKind.i64.wrap (m:Int)=m:=wrap64 tf tf
variable{a b:Nat}{x y:az}{t:aF}
def Ob(hx:ρ x=.int .i64 (a:Int))(hy:ρ y=.int .i64 (b:Int))(hb:b<64):Pu P ρ (.bin .shr t x y) (.int .i64 ((a>>>b:Nat):Int)):=λh=>by
 simp only[aK.run,hx,hy];rw[D8 (v:=.int .i64 ((a>>>b):Int)) rfl (by
  show dR P (Op.shift .shr .i64 a .i64 b)=_;show some (Value.int .i64 ((a:Int).fdiv (2^(min (b:Int).toNat 64))))=_;rw[QX]
  grind) rfl]
def Y5(hx:ρ x=.int .i64 (a:Int))(hy:ρ y=.int .i64 (b:Int))(hb:b<64)(hr:a<<<b<9223372036854775808):Pu P ρ (.bin .shl t x y) (.int .i64 ((a<<<b:Nat):Int)):=λh=>by
 simp only[aK.run,hx,hy];rw[D8 (v:=.int .i64 ((a<<<b:Nat))) rfl (by
  show dR P (Op.shift .shl .i64 a .i64 b)=_;show some (Value.int .i64 (IntKind.i64.wrap (a*2^(min (b:Int).toNat 64))))=_;rw[show min (b:Int).toNat 64=b by omega];rw[show(a*2^b)=((a<<<b):Int)by rw[Nat.shiftLeft_eq];simp,wrapN hr]) rfl]
def Oc(h:a<9223372036854775808):(BitVec.ofInt 64 (a:Int)).toNat=a:=by
 grind
def Od(hx:ρ x=.int .i64 (a:Int))(hy:ρ y=.int .i64 (b:Int))(ha:a<9223372036854775808)(hb:b<9223372036854775808):Pu P ρ (.bin .and t x y) (.int .i64 ((a&&&b:Nat):Int)):=λh=>by
 simp only[aK.run,hx,hy];rw[D8 rfl (by
  show some (Value.int .i64 (IntKind.i64.wrap ((BitVec.ofInt 64 a&&&BitVec.ofInt 64 b).toNat:Int)))=_;rw[BitVec.toNat_and,Oc ha,Oc hb,wrapN (QY Nat.and_le_left ha)]) rfl]
def Y6(hx:ρ x=.int .i64 (a:Int))(hy:ρ y=.int .i64 (b:Int))(ha:a<9223372036854775808)(hb:b<9223372036854775808):Pu P ρ (.bin .or t x y) (.int .i64 ((a|||b:Nat):Int)):=λh=>by
 simp only[aK.run,hx,hy];rw[D8 rfl (by
  show some (Value.int .i64 (IntKind.i64.wrap ((BitVec.ofInt 64 a|||BitVec.ofInt 64 b).toNat:Int)))=_;have:a|||b<2^63:=Wy tf tf;rw[BitVec.toNat_or,Oc ha,Oc hb,wrapN tf]) rfl]
end Go.Ideal
namespace Go.Ideal
variable {P:Program}
def JV{X:Type}(f:X->ae OA):OA:=⟨λw S=>∃x,gV w (f x) S,λa h ⟨x,hx⟩=>⟨x,gV.loc a h hx⟩⟩
def Gr{ρ:az->ah}{x y:az}{a b:Int}(hx:ρ x=.int .i64 a)(hy:ρ y=.int .i64 b):Pu P ρ (.Dz false [x,y]) (.int .i64 (min a b)):=λh=>by
 have e:nQ ρ [x,y]=[.int .i64 a,.int .i64 b]:=by rw[xN];simp[hx,hy]
 simp only[aK.run,e,BG,cond];by_cases hb:a<=b
 .rw[wE,dQ hb,Int.min_eq_left hb]
 .have:leZ a b=false:=by rw[wE,aW hb]
  grind
section
variable {B:ae Nat} {w0:Wd} {kl kl' bM:ae OA} {F:ae aM} {K:KO} {n:Nat} {l:qr} {D:ae Deferred} {pm:ak FrameMode} {ro:ak Nat}
variable{X:Type}{Q:IH->Prop}
def Cj{f:X->ae OA}{fq:X->ae OA}(hk:aB (JV f) kl kl':=by exact dV)(ha:∀x,dW (f x) kl' (fq x):=by intro x;repeat (first|exact dW.nil|apply dW.cons|exact dW.self|exact dW.app))(h:∀x,R Q B w0 (fq x) F):R Q B w0 kl F:=λw s=>by
 obtain⟨S,⟨S1,S2,⟨x,q1⟩,q2,e⟩,h2,h3⟩:=(s.gz hk).own;refine h x w ?_;rw[<- (ha x).eq];exact⟨s.agree,s.le,s.fZ,⟨S,by rw[e];exact q1.app q2,h2,h3⟩,s.facts⟩
def Ay(f:X->ae OA)(x:X){Q:IH->Prop}(hk:aH (f x) kl bM:=by exact nH)(h:R Q B w0 (JV f::bM) F):R Q B w0 kl F:=λw s=>by
 obtain⟨S,h1,h2,h3⟩:=s.own;obtain⟨S1,S2,q1,q2,hp⟩:=h1.lK hk;exact h w ⟨s.agree,s.le,s.fZ,⟨S1++S2,⟨S1,S2,⟨x,q1⟩,q2,rfl⟩,hp.nodup h2,(by grind)⟩,s.facts⟩
def fo(g:aM)(hg:∀w:Wd,(∀f∈F,f.p w)->g.p w)(h:R Q B w0 kl (g::F)):R Q B w0 kl F:=λw s=>
 h w ⟨s.agree,s.le,s.fZ,s.own,λf hf=>by
  rcases dB.1 hf with rfl|hf
  .exact hg w s.facts
  .exact s.facts f hf⟩
variable{α:Type}
def Y7{E:Enc α}{w:Wd}{b f c:Nat}{v:ah}{xs:ae α}(h1:(dO b 0 [v]).p w)(h2:(aj E v xs).p w)(hc:1<=c:=by first|exact bI _|omega)(hf:f=0\/f=1:=by exact Gn):(aj (ay E) (.slice (some ⟨b,0,some f⟩) 1 c) [xs]).p w:=by
 obtain⟨cells,q1,q2⟩:=h1;refine .inr ⟨b,0,f,c,cells,⟨rfl,hc,hf⟩,q1,λk x hk=>?_⟩;match k,hk with
 |0,hk=>
  cases hk;refine⟨v,λj u hj=>?_,λg hg=>by rw[bS.1 hg];exact h2⟩;have:=q2 j u hj;simpa using this
variable{Y:Type}
def JW{f:fI}{args cap:ae ah}{kl:ae OA}{F:ae aM}{val:Y->ah}{kl':Y->ae OA}{fs:Y->ae aM}{pr:Y->Prop}{c:dH}{m:Nat}{l0:qr}(cf:iL)(hF:(ni P uk ul).F f=some cf)
 (hb:∀B w0,R (λh=>EV P c (act m l0 [] none none) h (vB P cf (Left B w0 val kl' fs pr))) B w0 kl F)
 (h1:cf.body=c:=by exact N7) (h2:uh cf.ntmps (jq (args++cap))=m:=by conv=>lhs;whnf) (h3:uw 0 (args++cap) []=l0:=by exact NZ):bG P (.func f) args cap kl F val kl' fs pr:=
 ako cf hF hb h1 h2 h3
variable{fq:ae OA}
def Ef{o:Out}{cf:iL}{vs:ae ah}{val:Y->ah}{k1:Y->ae OA}{fs:Y->ae aM}{pr:Y->Prop}(y:Y)(hD:lM kl D fq:=by repeat (first|exact lM.nil|(apply lM.cons;(focus (repeat (first|with_reducible exact aB.here|with_reducible apply aB.there|with_reducible apply aB.app))))))
 (hr:RS l fq cf.results vs:=by exact Au) (hv:sK vs=val y) (hp:pr y)
 (hk:aH (k1 y) fq bM:=by exact nH) (hF:Sub (fs y) F:=by exact mK)
 (ho:o=.normal\/o=.ret:=by exact Gn):R (λh=>vB P cf (Left B w0 val k1 fs pr) o (act n l D none ro) h) B w0 kl F:=
 akp y hD hr hv hp hk hF ho
def Ck{lo:Nat}{L:qy}{out:Y->Out}{k1:Y->ae OA}{fs:Y->ae aM}{pr:Y->Prop}{o:Out}(y:Y)(ho:o=out y)(hn:Ed o)(hp:pr y)
 (hk:aH (pt lo (.loop (Aw L))::k1 y) kl fq:=by exact nH) (hF:Sub (fs y) F:=by exact mK):
 R (λh=>Ee B w0 lo L out k1 fs pr o (act n l [] none ro) h) B w0 kl F:=akq y ho hn hp hk hF
def fJ(E:Enc α){ds:ae Tmp}{rest:ae bW}{d:Nat}{g:ak (Tmp×Bool)}{e:aF}{size bytes b':Nat}{s x:az}{v:ah}{xs:ae α}(a:α)(y:E.Y){cs:ae ah}{k1 k2:ae OA}
 (hm:(xs.length+1)*bytes<=1073741824/\(xs.length+1)*size<=1073741824/\xs.length+1<=1073741824)
 (next:∀ad,R (λh=>aJ P ds rest (act n ((d,.slice ad (xs.length+1) (xs.length+1))::l) D pm ro) h K) B w0 (ap E (.slice ad (xs.length+1) (xs.length+1)) (xs++[a])::k2) F)
 (hn:Nat.blt d n=true:=by rfl) (hg:bV l g=true:=by rfl)
 (hs:ev l s=v:=by conv=>lhs;whnf) (hx:ev l x=.slice (some ⟨b',0,some 0⟩) 1 1:=by rfl) (hk:aB (ap E v xs) kl k1:=by exact dV) (hc:aB (pt b' (.cells cs)) k1 k2:=by exact dV) (hp:cs=E.pat a y:=by rfl) (hF:Sub (E.fs a y) F:=by exact mK) (hz:E.n=size:=by rfl):
 R (λh=>aJ P ds (⟨⟨some d,g,.append e size bytes s x⟩,[]⟩::rest) (act n l D pm ro) h K) B w0 kl F:=
 (aj5 hn hg hs hx hk hc hp hF hz hm).h λv' w st=>by
   obtain⟨S,⟨S1,S2,q,_⟩,_⟩:=st.own;obtain⟨ad,e⟩:=SY q;rw[fV]at e;subst e;exact next ad w st
section
variable {ds:ae Tmp} {rest:ae bW} {d:Nat} {g:ak (Tmp×Bool)}
variable{x y:az}
def ym{e:aF}{size bytes:Nat}{zero:ae ah}(m:Nat)(hm:m*bytes<=1073741824/\m*size<=1073741824/\m<=1073741824)
 (next:∀b,R (λh=>aJ P ds rest (act n ((d,.slice (some ⟨b,0,some 0⟩) m m)::l) D pm ro) h K) B w0 (pt b (.cells (zeros zero m))::kl) F)
 (hx:ev l x=.int .i64 (m:Int):=by rfl) (hy:ev l y=.int .i64 (m:Int):=by rfl) (hn:Nat.blt d n=true:=by rfl) (hg:bV l g=true:=by rfl):
 R (λh=>aJ P ds (⟨⟨some d,g,.xK e size bytes zero x y⟩,[]⟩::rest) (act n l D pm ro) h K) B w0 kl F:=(ajU hn hg hx hy hm).h next
variable{b o:Nat}{cs:ae ah}{v:ah}
def l9{cs':ae ah}(hs:cs.set o v=cs')(ho:o<cs.length)
 (next:R (λh=>aJ P ds rest (act n l D pm ro) h K) B w0 (pt b (.cells cs')::kl') F)
 (hx:ev l x=.pointer (some ⟨b,o,none⟩):=by rfl) (hy:ev l y=v:=by rfl) (hv:cellsOf v=some [v]:=by rfl) (hk:aB (pt b (.cells cs)) kl kl':=by exact dV) (hg:bV l g=true:=by rfl):
 R (λh=>aJ P ds (⟨⟨none,g,.store 1 x y⟩,[]⟩::rest) (act n l D pm ro) h K) B w0 kl F:=by subst hs;exact(ajY hg hx hy hv hk ho).h next
def rJ(v:ah)(hv:cs[o]? =some v)
 (next:R (λh=>aJ P ds rest (act n ((d,v)::l) D pm ro) h K) B w0 kl F)
 (hx:ev l x=.pointer (some ⟨b,o,none⟩):=by rfl) (hk:aB (pt b (.cells cs)) kl kl':=by exact dV) (hn:Nat.blt d n=true:=by rfl) (hg:bV l g=true:=by rfl):
 R (λh=>aJ P ds (⟨⟨some d,g,.fE x⟩,[]⟩::rest) (act n l D pm ro) h K) B w0 kl F:=(ajZ hn hg hx hk hv).h next
def akr{i:az}{xs:ae Int}(k:Nat)(z:Int){kk:IntKind}{d2:Nat}(hz:xs[k]? =some z)
 (next:∀b o,R (λh=>aJ P ds rest (act n ((d2,.int .i64 z)::(d,.pointer (some ⟨b,o,none⟩))::l) D pm ro) h K) B w0 kl F)
 (hx:ev l x=v:=by conv=>lhs;whnf) (hi:ev l i=.int kk (k:Int):=by rfl) (hk:aB (ap ai v xs) kl kl':=by exact dV) (hn:Nat.blt d n=true:=by rfl) (hn2:Nat.blt d2 n=true:=by rfl):
 R (λh=>aJ P ds (⟨⟨some d,none,.jv 1 x i⟩,[]⟩::⟨⟨some d2,none,.fE (.tmp d)⟩,[]⟩::rest) (act n l D pm ro) h K) B w0 kl F:=(aj6 hn rfl hn2 (λ_=>rfl) hx hi hk hz).h next
end
end
end Go.Ideal
namespace Go.Ideal
open Go.ChangeShapes Go.WideShapes Go.ChangeAt Go.RowKit
variable {P:Program}
def kD{α:Type}(P:Program)(t:aF)(E:Enc α)(G:α->Prop):Prop:=∀(w:Wd) (H:Type) (d:DataW H) (cs:ae ah),(∀i,i<w.h.next->w.z i)->ji P w.h t cs d->∃a y,cs=E.pat a y/\(∀f∈E.fs a y,f.p w)/\G a
def lG(n:Int):Prop:= -9223372036854775808<=n/\n<9223372036854775808
def uz{α:Type}(G:α->Prop)(xs:ae α):Prop:=xs.length<9223372036854775808/\∀x∈xs,G x
variable{t:aF}
def aks(ht:P.underlying t=some (.int .i64)):kD P t ai lG:=λw H d cs hz r=>by
 obtain⟨n,rfl,_,h⟩:=r.nT ht;refine⟨n,(),rfl,(λf hf=>by cases hf),?_⟩;simp only[Lit.wf,IntKind.min,IntKind.signed,IntKind.bits,eU]at h;simp at h;exact⟨tf,tf⟩
def akt(ht:P.underlying t=some .string):kD P t aX (λ_=>True):=λw H d cs hz r=>by
 obtain⟨n,rfl,_⟩:=r.BP ht;exact⟨n,(),rfl,(λf hf=>by cases hf),trivial⟩
variable{α:Type}
def Cm{e:aF}{E:Enc α}{G:α->Prop}(ht:P.underlying t=some (.slice e))(hn:P.cellsOf e=E.n)(he:kD P e E G):kD P t (ay E) (uz G):=λw H d cs hz r=>by
 rcases r.nU ht with⟨rfl,_⟩|⟨i,n,c,cells,els,rest,rfl,_,hnc,hl,hcl,hel⟩
 .exact⟨[],_,rfl,(λf hf=>by rw[bS.1 hf];exact .inl ⟨rfl,none,0,rfl,trivial⟩),tg,λx hx=>by cases hx⟩
 .have hmax:maxLen=9223372036854775807:=by decide
  obtain⟨xs,hx1,hx2⟩:=Te (p:=λk a=>(∃y,(cells.drop (k*E.n)).take E.n=E.pat a y/\∀f∈E.fs a y,f.p w)/\G a) n (λk hk=>by
   have hk':k<els.length:=tf
   have:=hel k els[k] (bY hk');rw[hn]at this;obtain⟨a,y,q1,q2,q3⟩:=he w H _ _ hz this;exact⟨a,⟨y,q1,q2⟩,q3⟩)
  refine⟨xs,_,rfl,λf hf=>?_,tf,λx hx=>?_⟩
  .rw[bS.1 hf];rcases hcl with h0|hcl
   .left;have:xs=[]:=lW.1 tf;exact⟨this,some ⟨i,0,some 0⟩,c,by rw[h0],Or.inl rfl⟩
   .right;refine⟨i,0,0,c,cells,⟨by rw[hx1],by rw[hx1];exact hnc.1,.inl rfl⟩,⟨hz i hcl.1,hcl.2⟩,λk x hk=>?_⟩;obtain⟨⟨y,q1,q2⟩,_⟩:=hx2 k x hk;refine⟨y,λj u hj=>?_,q2⟩;rw[<- q1,vZ]at hj;split at hj
    .rw[rZ]at hj;rw[gI];exact hj
    .cases hj
  .obtain⟨k,hk⟩:=iI hx;exact(hx2 k x hk).2
inductive Eg(P:Program):{α:Type}->List Field->Enc α->(α->Prop)->Prop
 |nil:Eg P [] Y0 (λ_=>True)
 |cons {α β:Type} {f:Field} {fs:List Field} {E1:Enc α} {E2:Enc β} {G1:α->Prop} {G2:β->Prop} (h:kD P f.type E1 G1) (hn:P.cellsOf f.type=E1.n) (t:Eg P fs E2 G2):Eg P (f::fs) (YZ E1 E2) (λx=>G1 x.1/\G2 x.2)
def Eg.N9{w:Wd}{H:Type}(hz:∀i,i<w.h.next->w.z i):∀{α:Type} {fs:ae Field} {E:Enc α} {G:α->Prop},Eg P fs E G->∀(o0:Nat) (cs:ae ah) (ds:ae (DataW H)),cs.length=(fs.map λf=>P.cellsOf f.type).sum->ds.length=fs.length->
 fs.map (·.offset)=sums o0 (fs.map λf=>P.cellsOf f.type)->(∀(j:Nat) f d,fs[j]? =some f->ds[j]? =some d->ji P w.h f.type ((cs.drop (f.offset - o0)).take (P.cellsOf f.type)) d)->∃a y,cs=E.pat a y/\(∀f∈E.fs a y,f.p w)/\G a
 |_,_,_,_,.nil,o0,cs,ds,h1,h2,h3,h4=>⟨(),(),lW.1 tU,(λf hf=>by cases hf),trivial⟩
 |_,_,_,_,.cons (f:=f) (fs:=fs) (E1:=E1) (E2:=E2) h hn t,o0,cs,ds,h1,h2,h3,h4=>by
  match ds,h2 with
  |d::ds,h2=>
   simp only[kv,List.sum_cons,sums,List.cons.injEq]at h1 h3;obtain⟨ho,h3⟩:=h3;have r0:=h4 0 f d rfl rfl;rw[ho,tQ,wh]at r0;obtain⟨a,y,q1,q2,q3⟩:=h w H d _ hz r0;obtain⟨b,z,u1,u2,u3⟩:=Eg.N9 hz t (o0+P.cellsOf f.type) (cs.drop (P.cellsOf f.type)) ds (by grind) wA h3 (λj g e hg he=>by
    exact da)
   refine⟨(a,b),(y,z),?_,?_,q3,u3⟩
   .show cs=E1.pat a y++E2.pat b z;rw[<- q1,<- u1,si]
   .exact pZ
def Cn{fs:Array Field}{E:Enc α}{G:α->Prop}(ht:P.underlying t=some (.struct fs))(ho:fs.toList.map (·.offset)=sums 0 (fs.toList.map λf=>P.cellsOf f.type))
 (hs:P.cellsOf t=(fs.toList.map λf=>P.cellsOf f.type).sum) (h:Eg P fs.toList E G):kD P t E G:=λw H d cs hz r=>by
 obtain⟨ds,_,h1,h2,h3⟩:=r.YI ht;refine h.N9 hz 0 cs ds (by rw[h1,hs]) wA ho λj f d hf hd=>?_
 grind
def kD.conv{β:Type}{E:Enc α}{E':Enc β}{G:α->Prop}{G':β->Prop}(h:kD P t E G)(hc:∀a y,G a->∃b z,E.pat a y=E'.pat b z/\E.fs a y=E'.fs b z/\G' b):kD P t E' G':=λw H d cs hz r=>by
 obtain⟨a,y,q1,q2,q3⟩:=h w H d cs hz r;obtain⟨b,z,e1,e2,e3⟩:=hc a y q3
 grind
section
variable {H:Type}
variable{α:Type}{w:Wd}{t:aF}{v:ah}{d:DataW H}
def zo.Y8{E:Enc α}{G:α->Prop}(h:zo P w t v d)(hz:∀i,i<w.h.next->w.z i)(ha:lD P t=true)(hr:kD P t E G):∃a y,v=.agg ⟨E.pat a y⟩/\(∀f∈E.fs a y,f.p w)/\G a:=by
 exact mA
def zo.oneG{E:Enc α}{G:α->Prop}(h:zo P w t v d)(hz:∀i,i<w.h.next->w.z i)(ha:lD P t=false)(hr:kD P t E G):∃a y,E.pat a y=[v]/\(∀f∈E.fs a y,f.p w)/\G a:=by
 exact mw
end
end Go.Ideal
namespace Go.Ideal
variable {P:Program}
def gV.Tg{w:Wd}{A:OA}:∀{kl kl':ae OA} {S:ae Nat},aB A kl kl'->gV w (A::kl') S->∃S',gV w kl S'/\S.Perm S'
 |_,_,S,.here,h=>⟨S,h,.refl _⟩
 |_,_,_,.there s,⟨S1,S2,h1,⟨T1,T2,h2,h3,e2⟩,e⟩=>by
  obtain⟨S',q1,q2⟩:=gV.Tg s ⟨S1,T2,h1,h3,rfl⟩;refine⟨T1++S',⟨T1,S',h2,q1,rfl⟩,?_⟩
  grind
def aB.at{α:Type}{a:α}:∀{l:ae α} {k:Nat},l[k]? =some a->aB a l (l.eraseIdx k)
 |[],k,h=>by simp at h
 |b::l,0,h=>by
  simp at h;subst h;exact .here
 |b::l,k+1,h=>.there (aB.at tw)
def Y9{α:Type}(a:α):∀(l:ae α) (k:Nat),(l.set k a).eraseIdx k=l.eraseIdx k
 |[],k=>rfl
 |b::l,0=>rfl
 |b::l,k+1=>by simp[Y9 a l k]
def R.perm{B:ae Nat}{w0:Wd}{kl fq:ae OA}{F:ae aM}{Q:IH->Prop}(hp:∀w S,gV w kl S->∃S',gV w fq S'/\S.Perm S')(h:R Q B w0 fq F):R Q B w0 kl F:=λw s=>by
 obtain⟨S,h1,h2,h3⟩:=s.own;exact h w ⟨s.agree,s.le,s.fZ,(by grind),s.facts⟩
section
variable {B:ae Nat} {w0:Wd} {kl kl' bM k1 k2:ae OA} {F:ae aM} {K:KO} {n:Nat} {l:qr} {D:ae Deferred} {pm:ak FrameMode} {ro:ak Nat} {Q:IH->Prop}
end
end Go.Ideal
namespace Go.Ideal
noncomputable def Gs:Nat->T aN->T aN->Bool
 |0,_,_=>false
 |n+1,a,b=>match a,b with
  | .leaf,.leaf=>true
  | .node v l r,.node v' l' r'=>(match v,v' with
    |none,none=>true
    |some o,some o'=>NK o o'
    |_,_=>false)&&(Gs n l l'&&Gs n r r')
  |_,_=>false
def Ti:∀(n:Nat) {a b:T aN},Gs n a b=true->a=b
 |0,_,_,h=>by cases h
 |n+1,a,b,h=>by
  unfold Gs at h;split at h
  .rfl
  .simp only[eU]at h;obtain⟨h1,h2,h3⟩:=h;rw[Ti n h2,Ti n h3];split at h1
   .rfl
   .rw[Yp h1]
   .cases h1
  .cases h
variable {P:Program}
def Tj{X:Type}(n:Nat)(D:ae Deferred)(pm:ak FrameMode)(ro:ak Nat)(B:ae Nat)(w0:Wd)(L:X->qr)(KL:X->ae OA)(FF:X->ae aM)(inv:X->Prop)(l0:qr)(bM:ae OA)(F0:ae aM)(K:KO):KO:=λo a h=>
 match o with
 | .normal=>∃(x:X) (l:qr) (w:Wd),a=act n l D pm ro/\sub (L x++l0) l/\w.h=h/\St B w0 (KL x++bM) (FF x++F0) w/\inv x
 |o=>K o a h
section
variable {B:ae Nat} {w0:Wd} {kl kl' bM k1 k2:ae OA} {F:ae aM} {K:KO} {n:Nat} {l:qr} {D:ae Deferred} {pm:ak FrameMode} {ro:ak Nat} {Q:IH->Prop}
section
variable {X:Type} {n2:Nat} {D2:ae Deferred} {pm2:ak FrameMode} {ro2:ak Nat} {B2:ae Nat} {w2:Wd} {L:X->qr} {KL:X->ae OA} {FF:X->ae aM} {inv:X->Prop} {l0:qr} {F0:ae aM}
def akw{a:bB}{ch:ae PanicEntry}(h:R (λh=>K (.panic ch) a h) B w0 kl F):R (λh=>Tj n2 D2 pm2 ro2 B2 w2 L KL FF inv l0 bM F0 K (.panic ch) a h) B w0 kl F:=h
def Oe{JU fq:ae OA}(x:X)(hi:inv x)(hl:sub (L x++l0) l:=by exact JS)
 (ha:dW (KL x) bM JU:=by exact JR)
 (hk:aH JU kl fq:=by exact nH) (hF:Sub (FF x) F:=by exact mK)
 (Ar:qj F0 F:=by exact YY):
 R (λh=>Tj n D pm ro B w0 L KL FF inv l0 bM F0 K .normal (act n l D pm ro) h) B w0 kl F:=λw s=>by
 refine⟨x,l,w,rfl,hl,rfl,?_,hi⟩;have s':=(s.lK hk).drop;rw[<- ha.eq]at s';exact⟨s'.agree,s'.le,s'.fZ,s'.own,λf hf=>(eP.1 hf).elim (λhf=>s.facts f (hF.mem f hf)) (λhf=>s.facts f (Ar.mem f hf))⟩
end
def Za{X:Type}{x y:dH}{l0:qr}{L2:X->qr}{yf:X->ae OA}{yj:X->ae aM}(ks:ae Nat)(L:X->qr)(KL:X->ae OA)(FF:X->ae aM)(inv:X->Prop)
 (hx:R (λh=>EV P x (act n l D pm ro) h (Tj n D pm ro B w0 L KL FF inv l0 bM F K)) B w0 kl F)
 (hy:∀z,inv z->R (λh=>EV P y (act n (L2 z) D pm ro) h K) B w0 (yf z) (yj z))
 (h0:wL l (ks.map λk=>(k,xJ)) l0:=by exact NY)
 (hal:∀x,dW (L x) l0 (L2 x):=by exact rG)
 (hak:∀x,dW (KL x) bM (yf x):=by exact rG) (sM:∀x,dW (FF x) F (yj x):=by exact rG):
 R (λh=>EV P x (act n l D pm ro) h (Ca P y K)) B w0 kl F:=λw s=>by
 refine Sr (hx w s) _ ?_;intro o a h hm;cases o with
 |normal=>
  obtain⟨z,l',w',rfl,hl,rfl,s',hz⟩:=hm;have:=hy z hz;rw[<- (hak z).eq,<- (sM z).eq,<- (hal z).eq]at this;exact Yn (Sy hl) (this w' s')
 |exit j=>exact hm
 |ret=>exact hm
 |panic ch=>exact hm
end
end Go.Ideal
namespace Go.Ideal
variable {P:Program}
def Og{n k:Nat}(h:k<=n):upTo n (.int .i64 (k:Int))=some k:=by
 show cond (Nat.ble k n) (some k) none=_;rw[show Nat.ble k n=true from by rw[tN];exact h];rfl
section
variable {B:ae Nat} {w0:Wd} {kl kl' bM k1 k2:ae OA} {F:ae aM} {K:KO} {n:Nat} {l:qr} {D:ae Deferred} {pm:ak FrameMode} {ro:ak Nat} {Q:IH->Prop} {ds:ae Tmp} {rest:ae bW} {d:Nat} {g:ak (Tmp×Bool)}
variable{α:Type}
def Zb{E:Enc α}{v:ah}{xs:ae α}{w:Wd}(hf:(aj E v xs).p w){a b:Nat}(hab:a<=b)(hb:b<=xs.length){size:Nat}(hz:E.n=size){x:az}{ρ:az->ah}(hx:ρ x=v){Az AA:ak az}
 (hbd:∀c,xs.length<=c->bounds? xs.length c (jw ρ Az) (jw ρ AA) none=some (a,b,c)):
 ∃u,(aK.FB size x Az AA none).run P ρ w.h=some (u,w.h)/\(aj E u ((xs.drop a).take (b - a))).p w/\∃ad m,u=.slice ad (b - a) m:=by
 subst hx hz;have h3:jw ρ none=none:=rfl;rcases hf with⟨rfl,ad,c,e,hg⟩|⟨i,o,f,c,cells,⟨e,hc,hf⟩,q2,q3⟩
 .have hb0:b=0:=by simpa using hb
  subst hb0;have ha0:a=0:=tf
  subst ha0;have hbd:=hbd c (bH _);rw[Bw]at hbd;match ad,hg with
  |none,_=>exact⟨.slice none 0 c,by simp only[aK.run,e,h3,hbd];rfl,.inl (by grind),_,_,rfl⟩
  |some ⟨i,o,some 0⟩,_=>exact⟨.slice (some ⟨i,o,some 0⟩) 0 c,by
    simp only[aK.run,e,h3,hbd];rw[show Nat.mul 0 E.n=0 from Fv _];rfl,.inl (by grind),_,_,rfl⟩
  |some ⟨i,o,some (k+1)⟩,hg=>
   have hk:k+1=E.n:=by
    rcases hg with h|h
    .cases h
    .exact h
   exact⟨.slice (some ⟨i,o,some (k+1)⟩) 0 c,by
    simp only[aK.run,e,h3,hbd];rw[show Nat.beq (Nat.succ k) E.n=true by rw[show Nat.succ k=E.n from hk];exact Dq _,show Nat.mul 0 E.n=0 from Fv _];rfl,.inl (by grind),_,_,rfl⟩
 .have hbd:=hbd c hc;have hel:∀(k:Nat) y,((xs.drop a).take (b - a))[k]? =some y->∃z,(∀(j:Nat) u,(E.pat y z)[j]? =some u->cells[(o+a*E.n)+k*E.n+j]? =some u)/\∀f∈E.fs y z,f.p w:=λk y hk=>by
   rw[vZ]at hk;split at hk
   .rw[rZ]at hk;obtain⟨z,u1,u2⟩:=q3 (a+k) y hk;refine⟨z,λj u hj=>?_,u2⟩
    grind
   .cases hk
  match f,hf with
  |0,_=>exact⟨.slice (some ⟨i,o+a*E.n,some 0⟩) (b - a) (c - a),by
    simp only[aK.run,e,h3,hbd];rfl,.inr ⟨i,o+a*E.n,0,c - a,cells,(by grind),q2,hel⟩,_,_,rfl⟩
  |k+1,hf=>
   have hk:k+1=E.n:=by
    grind
   exact⟨.slice (some ⟨i,o+a*E.n,some (k+1)⟩) (b - a) (c - a),by
    simp only[aK.run,e,h3,hbd];rw[show Nat.beq (Nat.succ k) E.n=true by rw[show Nat.succ k=E.n from hk];exact Dq _];rfl,.inr ⟨i,o+a*E.n,k+1,c - a,cells,(by grind),q2,hel⟩,_,_,rfl⟩
def akx(E:Enc α){x hi:az}{v:ah}{xs:ae α}{size:Nat}(b:Nat)(hb:b<=xs.length)
 (next:∀ad m,R (λh=>aJ P ds rest (act n ((d,.slice ad b m)::l) D pm ro) h K) B w0 kl (aj E (.slice ad b m) (xs.take b)::F))
 (hx:ev l x=v:=by conv=>lhs;whnf) (hhi:ev l hi=.int .i64 (b:Int):=by rfl) (hf:aj E v xs∈F:=by exact ic) (hz:E.n=size:=by rfl) (hn:Nat.blt d n=true:=by rfl) (hg:bV l g=true:=by rfl):
 R (λh=>aJ P ds (⟨⟨some d,g,.FB size x none (some hi) none⟩,[]⟩::rest) (act n l D pm ro) h K) B w0 kl F:=λw s=>by
 obtain⟨u,h1,h2,ad,m,e⟩:=Zb (s.facts _ hf) (bH b) hb hz hx (Az:=none) (AA:=some hi) (λc hc=>by
  show bounds? _ _ none (some (ev l hi)) none=_;rw[hhi];show(match upTo c (.int .i64 b)with|none=>none|some h=>match some 0 with|none=>none|some l=>some (l,h,c))=_;rw[Og tf])
 subst e;refine lJ hn hg h1 (next ad m w ?_);exact(s.add (F':=[aj E (.slice ad b m) (xs.take b)]) (by grind))
def aky(E:Enc α){x lo:az}{v:ah}{xs:ae α}{size:Nat}(a:Nat)(ha:a<=xs.length)
 (next:∀ad m,R (λh=>aJ P ds rest (act n ((d,.slice ad (xs.length - a) m)::l) D pm ro) h K) B w0 kl (aj E (.slice ad (xs.length - a) m) (xs.drop a)::F))
 (hx:ev l x=v:=by conv=>lhs;whnf) (hlo:ev l lo=.int .i64 (a:Int):=by rfl) (hf:aj E v xs∈F:=by exact ic) (hz:E.n=size:=by rfl) (hn:Nat.blt d n=true:=by rfl) (hg:bV l g=true:=by rfl):
 R (λh=>aJ P ds (⟨⟨some d,g,.FB size x (some lo) none none⟩,[]⟩::rest) (act n l D pm ro) h K) B w0 kl F:=λw s=>by
 obtain⟨u,h1,h2,ad,m,e⟩:=Zb (s.facts _ hf) ha (bI _) hz hx (Az:=some lo) (AA:=none) (λc hc=>by
  show bounds? _ _ (some (ev l lo)) none none=_;rw[hlo];show(match upTo xs.length (.int .i64 a)with|none=>none|some l=>some (l,xs.length,c))=_;rw[Og ha])
 subst e;refine lJ hn hg h1 (next ad m w ?_);rw[oQ (by grind)]at h2;exact(s.add (F':=[aj E (.slice ad (xs.length - a) m) (xs.drop a)]) (by grind))
end
