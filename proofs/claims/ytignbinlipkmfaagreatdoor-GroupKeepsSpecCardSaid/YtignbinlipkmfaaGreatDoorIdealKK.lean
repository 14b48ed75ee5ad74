/- Part. -/
import Derived.Test.YtignbinlipkmfaaGreatDoorIdealIK
set_option linter.all false
namespace Go.Ideal
variable{p:Prop}
def mE(h:p:=by repeat (first|exact Sub.nil|(apply Sub.cons;(focus ((repeat (first|with_reducible exact fT .. |with_reducible apply fO));first|done|fail)))|exact oC.sub (by repeat (first|with_reducible exact oC.here|with_reducible apply oC.cons|with_reducible apply oC.app)))):p:=h
def mP(h:p:=by repeat (first|exact aO.nil|(apply aO.cons;(focus (repeat (first|with_reducible exact aD.here|with_reducible apply aD.there|with_reducible apply aD.app))))|with_reducible exact aO.all _|with_reducible exact aO.self _ _|with_reducible apply aO.there)):p:=h
def fB(h:p:=by repeat (first|with_reducible exact aD.here|with_reducible apply aD.there|with_reducible apply aD.app)):p:=h
def yN(h:p:=by repeat (first|exact RS.nil|(apply RS.tmp;(conv=>lhs;whnf))|(apply RS.cell1;(focus exact rfl);(focus (repeat (first|with_reducible exact aD.here|with_reducible apply aD.there|with_reducible apply aD.app)));(conv=>lhs;whnf))|(apply RS.rD;(focus exact rfl);(focus (repeat (first|with_reducible exact aD.here|with_reducible apply aD.there|with_reducible apply aD.app)));(conv=>lhs;whnf)))):p:=h
def iP(h:p:=by(repeat (first|with_reducible exact fT .. |with_reducible apply fO));first|done|fail):p:=h
variable {P:Program}
section
variable {B:ae Nat} {w0:Wd} {kl:ae OA} {F:ae aP} {K:KO} {ds:ae Tmp} {rest:ae bY} {n:Nat} {l:qr} {D:ae Deferred} {pm:ak FrameMode} {ro:ak Nat} {d:Nat} {g:ak (Tmp×Bool)}
variable{x i:ay}{v:ah}{k:Nat}{kk:IntKind}
def afx{xs:ae Int}(hn:Nat.blt d n=true)(hg:cO l g=true)(hx:ev l x=v)(hi:ev l i=.int kk (k:Int))(hf:aj ai v xs∈F)(h1:k<xs.length):
 dz (R (λh=>aJ P ds (⟨⟨some d,g,.oq 1 x i⟩,[]⟩::rest) (act n l D pm ro) h K) B w0 kl F)
  (∀b o z,xs[k]? =some z->R (λh=>aJ P ds rest (act n ((d,.pointer (some ⟨b,o,none⟩))::l) D pm ro) h K) B w0 kl (eZ b o [.int .i64 z]::F)):=
 ⟨λr=>(Uu hn hg hx hi hf tr tr).h λb o z hz=>r b o z A0⟩
def afy{xs:ae Bool}(hn:Nat.blt d n=true)(hg:cO l g=true)(hx:ev l x=v)(hi:ev l i=.int kk (k:Int))(hf:aj Ur v xs∈F)(h1:k<xs.length):
 dz (R (λh=>aJ P ds (⟨⟨some d,g,.oq 1 x i⟩,[]⟩::rest) (act n l D pm ro) h K) B w0 kl F)
  (∀b o z,xs[k]? =some z->R (λh=>aJ P ds rest (act n ((d,.pointer (some ⟨b,o,none⟩))::l) D pm ro) h K) B w0 kl (eZ b o [.bool z]::F)):=
 ⟨λr=>(Uv hn hg hx hi hf tr tr).h λb o z hz=>r b o z A0⟩
end
inductive Fill(ρ:Operand->Value):List Value->List (Nat×Nat×Operand)->List Value->Prop
 |nil {cs:List Value}:Fill ρ cs [] cs
 |cons {cs vs cs' r:List Value} {off size:Nat} {x:Operand} {parts:List (Nat×Nat×Operand)} {v:Value} (h0:ρ x=v) (h1:cellsOf v=some vs) (h2:Nat.beq (je vs) size=true) (h3:kG cs off vs=some cs') (t:Fill ρ cs' parts r):Fill ρ cs ((off,size,x)::parts) r
def Fill.eq{ρ:ay->ah}:∀{zero:ae ah} {parts:ae (Nat×Nat×ay)} {cs:ae ah},Fill ρ zero parts cs->sP ρ zero parts=some cs
 |_,_,_,.nil=>rfl
 |cs0,_,_,.cons (off:=off) (size:=size) (x:=x) (parts:=parts) h0 h1 h2 h3 t=>by
  have ih:=t.eq;show(match cellsOf (ρ x)with
   |none=>none
   |some vs=>cond (Nat.beq (je vs) size) (match kG cs0 off vs with
    |some cs=>sP ρ cs parts
    |none=>none) none)=_
  simp only[h0,h1,h2,h3,cond,ih]
variable{B:ae Nat}{w0:Wd}{kl:ae OA}{F:ae aP}{K:KO}{ds:ae Tmp}{rest:ae bY}{n d:Nat}{l:qr}{D:ae Deferred}{pm:ak FrameMode}{ro:ak Nat}{g:ak (Tmp×Bool)}
def afz
 {t:aC} {len:Nat} {zero cs:ae ah} {parts:ae (Nat×Nat×ay)} (hn:Nat.blt d n=true) (hg:cO l g=true) (hx:Fill (ev l) zero parts cs):
 dz (R (λh=>aJ P ds (⟨⟨some d,g,.yc t len zero parts⟩,[]⟩::rest) (act n l D pm ro) h K) B w0 kl F)
 (∀b,R (λh=>aJ P ds rest (act n ((d,.slice (some ⟨b,0,some 0⟩) len len)::l) D pm ro) h K) B w0 (pt b (.cells cs)::kl) F):=afb hn hg hx.eq
def afA
 {zero cs:ae ah} {parts:ae (Nat×Nat×ay)} (hn:Nat.blt d n=true) (hg:cO l g=true) (hx:Fill (ev l) zero parts cs):
 dz (R (λh=>aJ P ds (⟨⟨some d,g,.build zero parts⟩,[]⟩::rest) (act n l D pm ro) h K) B w0 kl F) (R (λh=>aJ P ds rest (act n ((d,.agg ⟨cs⟩)::l) D pm ro) h K) B w0 kl F):=fo hn hg (aeK hx.eq)
variable{α:Type}
def afB{E:Enc α}{v:ah}{xs:ae α}{Q:IH->Prop}(hf:aj E v xs∈F)(h:∀a c,v=.slice a xs.length c->R Q B w0 kl F):R Q B w0 kl F:=λw s=>by
 obtain⟨a,c,e⟩:=Ut (s.facts _ hf);exact h a c e w s
section
variable {B:ae Nat} {w0:Wd} {kl:ae OA} {F:ae aP} {K:KO} {ds:ae Tmp} {rest:ae bY} {n:Nat} {l:qr} {D:ae Deferred} {pm:ak FrameMode} {ro:ak Nat} {t1 t2:Nat}
def mQ{e:Bool}(h1:e=false->R (λh=>aJ P ds rest (act n ((t1,.bool false)::(t2,.bool false)::l) D pm ro) h K) B w0 kl F)(h2:e=true->R (λh=>aJ P ds rest (act n ((t1,.bool true)::(t2,.bool true)::l) D pm ro) h K) B w0 kl F):
 R (λh=>aJ P ds rest (act n ((t1,.bool e)::(t2,.bool e)::l) D pm ro) h K) B w0 kl F:=by
 cases e
 .exact h1 rfl
 .exact h2 rfl
variable{p:Prop}
def p9{_:Decidable p}(h1:¬p->R (λh=>aJ P ds rest (act n ((t1,.bool false)::(t2,.bool false)::l) D pm ro) h K) B w0 kl F)(h2:p->R (λh=>aJ P ds rest (act n ((t1,.bool true)::(t2,.bool true)::l) D pm ro) h K) B w0 kl F):
 R (λh=>aJ P ds rest (act n ((t1,.bool (decide p))::(t2,.bool (decide p))::l) D pm ro) h K) B w0 kl F:=
 mQ (λe=>h1 (ol e)) (λe=>h2 (gT e))
def oD{_:Decidable p}(h1:p->R (λh=>aJ P ds rest (act n ((t1,.bool false)::(t2,.bool false)::l) D pm ro) h K) B w0 kl F)(h2:¬p->R (λh=>aJ P ds rest (act n ((t1,.bool true)::(t2,.bool true)::l) D pm ro) h K) B w0 kl F):
 R (λh=>aJ P ds rest (act n ((t1,.bool (!decide p))::(t2,.bool (!decide p))::l) D pm ro) h K) B w0 kl F:=
 mQ (λe=>h1 tW) (λe=>h2 tW)
end
section
variable {B:ae Nat} {w0:Wd} {kl kl':ae OA} {F:ae aP} {K:KO} {ds:ae Tmp} {rest:ae bY} {n:Nat} {l:qr} {D:ae Deferred} {pm:ak FrameMode} {ro:ak Nat} {d:Nat} {g:ak (Tmp×Bool)}
variable{x:ay}{v:ah}{cs:ae ah}
def afC{t:aC}(hn:Nat.blt d n=true)(hg:cO l g=true)(hv:ev l x=v)(hx:cellsOf v=some cs):dz (R (λh=>aJ P ds (⟨⟨some d,g,.box x t⟩,[]⟩::rest) (act n l D pm ro) h K) B w0 kl F)
 (∀b,R (λh=>aJ P ds rest (act n ((d,.pointer (some ⟨b,0,none⟩))::l) D pm ro) h K) B w0 (pt b (.cells cs)::kl) F):=afa hn hg (by rw[hv];exact hx)
def afD{y:ay}{b o m:Nat}{vs c:ae ah}(hg:cO l g=true)(hx:ev l x=.pointer (some ⟨b,o,none⟩))(hw:ev l y=v)(hy:cellsOf v=some vs)(hm:Nat.beq (je vs) m=true)
 (hk:aD (pt b (.cells cs)) kl kl') (hv:kG cs o vs=some c):
 dz (R (λh=>aJ P ds (⟨⟨none,g,.store m x y⟩,[]⟩::rest) (act n l D pm ro) h K) B w0 kl F) (R (λh=>aJ P ds rest (act n l D pm ro) h K) B w0 (pt b (.cells c)::kl') F):=afh hg hx (by rw[hw];exact hy) hm hk hv
end
def afE
 {fn:Fn} {first captured:ae ay} {a b:ae ah} (hn:Nat.blt d n=true) (hg:cO l g=true) (h1:EvL (ev l) first a) (h2:EvL (ev l) captured b):
 dz (R (λh=>aJ P ds (⟨⟨some d,g,.CO fn first captured⟩,[]⟩::rest) (act n l D pm ro) h K) B w0 kl F) (R (λh=>aJ P ds rest (act n ((d,.func fn ⟨a⟩ ⟨b⟩)::l) D pm ro) h K) B w0 kl F):=fo hn hg (aeL h1 h2)
def yO(h:p:=by
 repeat (first
  |((with_reducible apply dz.trans);first
   |with_reducible exact aeM
   |with_reducible exact aeN
   |with_reducible exact aeO
   |with_reducible exact aeP
   |with_reducible exact aeQ
   |with_reducible exact aeR
   |with_reducible exact aeS
   |with_reducible exact aeT
   |with_reducible exact aeU
   |with_reducible exact aeV
   |with_reducible exact aeW
   |with_reducible exact aeX
   |with_reducible exact aeY
   |with_reducible exact aeZ
   |with_reducible exact ae0
   |with_reducible exact ae3
   |with_reducible exact ae4
   |with_reducible exact ae5
   |((with_reducible apply ae1);exact rfl)
   |((with_reducible apply ae2);exact rfl)
   |((with_reducible apply ae6);exact rfl)
   |((with_reducible apply ae7);exact rfl)
   |((with_reducible apply ae8);exact rfl;exact rfl)
   |((with_reducible apply afx);exact rfl;exact rfl;(focus ((conv=>lhs;whnf);(first|done|fail)));exact rfl;exact iP;(focus ((omega);(first|done|fail))))
   |((with_reducible apply afy);exact rfl;exact rfl;(focus ((conv=>lhs;whnf);(first|done|fail)));exact rfl;exact iP;(focus ((omega);(first|done|fail))))
   |((with_reducible apply Uu);exact rfl;exact rfl;(focus ((conv=>lhs;whnf);(first|done|fail)));exact rfl;exact iP;(focus ((omega);(first|done|fail)));(focus ((omega);(first|done|fail))))
   |((with_reducible apply Uv);exact rfl;exact rfl;(focus ((conv=>lhs;whnf);(first|done|fail)));exact rfl;exact iP;(focus ((omega);(first|done|fail)));(focus ((omega);(first|done|fail))))
   |((with_reducible apply fo);exact rfl;exact rfl;(focus ((first|((with_reducible apply I9);(focus ((conv=>lhs;whnf);(first|done|fail))))|((with_reducible apply Ja);(focus ((conv=>lhs;whnf);(first|done|fail))))|((with_reducible apply Je);exact rfl)|((with_reducible apply Jg);exact rfl;exact rfl)|((with_reducible apply Jh);exact rfl;exact rfl)|((with_reducible apply Ji);exact rfl;exact rfl)|((with_reducible apply Jj);exact rfl;exact rfl)|((with_reducible apply Jk);exact rfl;exact rfl)|((with_reducible apply Jl);exact rfl;exact rfl)|((with_reducible apply Jd);exact rfl)|((with_reducible apply Jb);exact rfl;(focus ((conv=>lhs;whnf);(first|done|fail))))|((with_reducible apply Jc);exact rfl;(focus ((conv=>lhs;whnf);(first|done|fail))))|((with_reducible apply Jn);exact rfl;(focus ((conv=>lhs;whnf);(first|done|fail))))|((with_reducible apply Jo);exact rfl)|((with_reducible apply Jp);exact rfl;(focus ((conv=>lhs;whnf);(first|done|fail))))|((with_reducible apply Jq);exact rfl;(focus ((conv=>lhs;whnf);(first|done|fail))))|((with_reducible apply Jr);(focus ((conv=>lhs;whnf);(first|done|fail))))|((with_reducible apply Js);exact rfl)|((with_reducible apply Jt);exact rfl)|((with_reducible apply Ju);exact rfl)|with_reducible exact Jf|((with_reducible apply Jv);exact rfl;exact rfl;exact rfl)|((with_reducible apply JI);exact rfl;exact rfl;(focus ((omega);(first|done|fail))))|((with_reducible apply FM);exact rfl;exact rfl;(focus ((omega);(first|done|fail)));(focus ((omega);(first|done|fail))))|((with_reducible apply Jw);exact rfl;exact rfl;(focus ((omega);(first|done|fail)));(focus ((omega);(first|done|fail))))|((with_reducible apply Dq);exact rfl;exact rfl;(focus ((omega);(first|done|fail)));(focus ((omega);(first|done|fail))))|((with_reducible apply Jm);exact rfl;exact rfl;(focus ((omega);(first|done|fail)));(focus ((omega);(first|done|fail))))|((with_reducible apply JC);exact rfl;exact rfl;(focus ((first|assumption|kernel_rfl);(first|done|fail))))|((with_reducible apply JD);exact rfl;exact rfl;(focus ((first|assumption|kernel_rfl);(first|done|fail))))|((with_reducible apply JE);exact rfl;exact rfl)|((with_reducible apply JF);exact rfl;exact rfl)|((with_reducible apply JG);exact rfl;exact rfl;(focus ((omega);(first|done|fail)));(focus ((omega);(first|done|fail)))));(first|done|fail))))
   |((with_reducible apply afE);exact rfl;exact rfl;(focus (repeat (first|with_reducible exact EvL.nil|((with_reducible apply EvL.cons);(conv=>lhs;whnf)))));(focus (repeat (first|with_reducible exact EvL.nil|((with_reducible apply EvL.cons);(conv=>lhs;whnf))))))
   |((with_reducible apply afz);exact rfl;exact rfl;(focus (repeat (first|with_reducible exact Fill.nil|((with_reducible apply Fill.cons);(conv=>lhs;whnf);(conv=>lhs;whnf);exact rfl;(conv=>lhs;whnf))))))
   |((with_reducible apply afA);exact rfl;exact rfl;(focus (repeat (first|with_reducible exact Fill.nil|((with_reducible apply Fill.cons);(conv=>lhs;whnf);(conv=>lhs;whnf);exact rfl;(conv=>lhs;whnf))))))
   |((with_reducible apply afC);exact rfl;exact rfl;(focus ((conv=>lhs;whnf);(first|done|fail)));(focus ((conv=>lhs;whnf);(first|done|fail))))
   |((with_reducible apply ae9);exact rfl;exact rfl)
   |((with_reducible apply afd);exact rfl;exact rfl;exact rfl;exact fB;(focus ((conv=>lhs;whnf);(first|done|fail))))
   |((with_reducible apply afe);exact rfl;exact rfl;exact rfl;exact fB;(focus ((conv=>lhs;whnf);(first|done|fail))))
   |((with_reducible apply aff);exact rfl;exact rfl;exact rfl;exact iP;(focus ((conv=>lhs;whnf);(first|done|fail))))
   |((with_reducible apply JA);exact rfl;exact rfl;exact rfl;exact iP;(focus ((conv=>lhs;whnf);(first|done|fail))))
   |((with_reducible apply afg);exact rfl;exact rfl;exact rfl;exact iP;(focus ((conv=>lhs;whnf);(first|done|fail))))
   |((with_reducible apply Us);exact rfl;exact rfl;exact rfl;exact iP;(focus ((conv=>lhs;whnf);(first|done|fail))))
   |((with_reducible apply afD);exact rfl;exact rfl;(focus ((conv=>lhs;whnf);(first|done|fail)));(focus ((conv=>lhs;whnf);(first|done|fail)));exact rfl;exact fB;(focus ((conv=>lhs;whnf);(first|done|fail))))
   |((with_reducible apply afl);exact rfl;exact rfl;(focus ((conv=>lhs;whnf);(first|done|fail)));exact iP)
   |((with_reducible apply afm);exact rfl;exact rfl;(focus ((conv=>lhs;whnf);(first|done|fail)));exact fB)
   |((with_reducible apply aft (re:=_::_));exact rfl;exact rfl;(focus ((first|((with_reducible apply I9);(focus ((conv=>lhs;whnf);(first|done|fail))))|((with_reducible apply Ja);(focus ((conv=>lhs;whnf);(first|done|fail))))|((with_reducible apply Je);exact rfl)|((with_reducible apply Jg);exact rfl;exact rfl)|((with_reducible apply Jh);exact rfl;exact rfl)|((with_reducible apply Ji);exact rfl;exact rfl)|((with_reducible apply Jj);exact rfl;exact rfl)|((with_reducible apply Jk);exact rfl;exact rfl)|((with_reducible apply Jl);exact rfl;exact rfl)|((with_reducible apply Jd);exact rfl)|((with_reducible apply Jb);exact rfl;(focus ((conv=>lhs;whnf);(first|done|fail))))|((with_reducible apply Jc);exact rfl;(focus ((conv=>lhs;whnf);(first|done|fail))))|((with_reducible apply Jn);exact rfl;(focus ((conv=>lhs;whnf);(first|done|fail))))|((with_reducible apply Jo);exact rfl)|((with_reducible apply Jp);exact rfl;(focus ((conv=>lhs;whnf);(first|done|fail))))|((with_reducible apply Jq);exact rfl;(focus ((conv=>lhs;whnf);(first|done|fail))))|((with_reducible apply Jr);(focus ((conv=>lhs;whnf);(first|done|fail))))|((with_reducible apply Js);exact rfl)|((with_reducible apply Jt);exact rfl)|((with_reducible apply Ju);exact rfl)|with_reducible exact Jf|((with_reducible apply Jv);exact rfl;exact rfl;exact rfl)|((with_reducible apply JI);exact rfl;exact rfl;(focus ((omega);(first|done|fail))))|((with_reducible apply FM);exact rfl;exact rfl;(focus ((omega);(first|done|fail)));(focus ((omega);(first|done|fail))))|((with_reducible apply Jw);exact rfl;exact rfl;(focus ((omega);(first|done|fail)));(focus ((omega);(first|done|fail))))|((with_reducible apply Dq);exact rfl;exact rfl;(focus ((omega);(first|done|fail)));(focus ((omega);(first|done|fail))))|((with_reducible apply Jm);exact rfl;exact rfl;(focus ((omega);(first|done|fail)));(focus ((omega);(first|done|fail))))|((with_reducible apply JC);exact rfl;exact rfl;(focus ((first|assumption|kernel_rfl);(first|done|fail))))|((with_reducible apply JD);exact rfl;exact rfl;(focus ((first|assumption|kernel_rfl);(first|done|fail))))|((with_reducible apply JE);exact rfl;exact rfl)|((with_reducible apply JF);exact rfl;exact rfl)|((with_reducible apply JG);exact rfl;exact rfl;(focus ((omega);(first|done|fail)));(focus ((omega);(first|done|fail)))));(first|done|fail)));(focus ((repeat (first|exact Du|refine Dv rfl fB tD rfl ?_|refine FO rfl iP tD rfl ?_|refine FP rfl iP tD rfl ?_|refine FQ rfl fB tD rfl ?_|refine FT rfl iP tD rfl ?_|refine FU rfl iP tD rfl ?_));(first|done|fail))))
   |((with_reducible apply afs (re:=_::_));exact rfl;exact rfl;(focus ((conv=>lhs;whnf);(first|done|fail)));(focus ((conv=>lhs;whnf);(first|done|fail)));exact rfl;exact fB;(focus ((conv=>lhs;whnf);(first|done|fail)));(focus ((repeat (first|exact Du|refine Dv rfl fB tD rfl ?_|refine FO rfl iP tD rfl ?_|refine FP rfl iP tD rfl ?_|refine FQ rfl fB tD rfl ?_|refine FT rfl iP tD rfl ?_|refine FU rfl iP tD rfl ?_));(first|done|fail))))
   |fail)
  |((with_reducible apply dz.all);intro _)
  |with_reducible apply dz.imp)
 with_reducible exact dz.refl _):p:=h
def go{G G':Prop}(x:G')(r:dz G G':=by exact yO):G:=r.h x
def qa{c:dA}{a:bi}(r:R (λh=>EV P c a h (zS P (.loop c) K)) B w0 kl F):R (λh=>EV P (.loop c) a h K) B w0 kl F:=λw s=>
 .loop _ (r w s) (λ_ _ hm=>hm) (λo a' h' hm hn=>by
  exact mN)
def oC.sub{F0:ae α}:∀{F:ae α},oC F0 F->Sub F0 F:=λ{F} h=>by
 have:∀k:ae α,(∀x∈k,x∈F)->Sub k F:=by
  intro k;induction k with
  |nil=>intro _;exact .nil
  |cons a k ih=>intro hk;exact .cons (hk a (fT ..)) (ih λx hx=>hk x (fO _ hx))
 exact this F0 h.mem
inductive dO{α:Type}:List α->List α->List α->Prop
 |nil {l:List α}:dO [] l l
 |cons {a:α} {k l m:List α} (h:dO k l m):dO (a::k) l (a::m)
 |self {k:List α}:dO k [] k
 |app {k l:List α}:dO k l (k++l)
def dO.eq:∀{k l m:ae α},dO k l m->k++l=m
 |_,_,_,.nil=>rfl
 |_,_,_,.self=>jd _
 |_,_,_,.app=>rfl
 |_,_,_,.cons h=>by rw[fK,h.eq]
def UB(h:p:=by intro _ _;repeat (first|exact Du|refine Dv rfl fB tD rfl ?_|refine FO rfl iP tD rfl ?_|refine FP rfl iP tD rfl ?_|refine FQ rfl fB tD rfl ?_|refine FT rfl iP tD rfl ?_|refine FU rfl iP tD rfl ?_|refine Uz B1 rfl ?_)):p:=h
def qy(h:p:=by intro y;repeat (first|exact dO.nil|apply dO.cons|exact dO.self|exact dO.app)):p:=h
def JJ(h:p:=by repeat (first|exact uN.nil|(apply uN.drop;exact rfl)|(apply uN.keep;exact rfl))):p:=h
def FV(h:p:=by repeat (first|exact dO.nil|apply dO.cons|exact dO.self|exact dO.app)):p:=h
def FW(h:p:=by repeat (first|exact trivial|refine⟨rfl,?_⟩)):p:=h
def JK(h:p:=by dsimp only[rQ,Nat.reduceAdd,List.append_nil,List.cons_append,List.nil_append]):p:=h
def UC(h:p:=by repeat (first|with_reducible exact EvL.nil|((with_reducible apply EvL.cons);(conv=>lhs;whnf)))):p:=h
def UD(h:p:=by conv=>lhs;(reduce;(try simp only[Int.reduceOfNat,Int.reduceNegSucc]))):p:=h
def Dw(h:p:=by intro z y;repeat (first|exact dO.nil|apply dO.cons|exact dO.self|exact dO.app)):p:=h
def OD(h:p:=by first|exact .inl rfl|exact .inr rfl):p:=h
def UE(h:p:=by repeat (first|exact oC.here|apply oC.cons|apply oC.app)):p:=h
section
variable {B:ae Nat} {w0:Wd} {kl kl' bD:ae OA} {F:ae aP} {K:KO} {ds:ae Tmp} {rest:ae bY} {n:Nat} {l:qr} {D:ae Deferred} {pm:ak FrameMode} {ro:ak Nat} {d:Nat} {g:ak (Tmp×Bool)}
variable{Y:Type}{vs:ae ah}
def eO{f:ay}{xs:ae ay}{re:ae iU}{fn:Fn}{first captured as:ae ah}{k1:ae OA}{F1:ae aP}{val:Y->ah}{k1':Y->ae OA}{fs:Y->ae aP}{pr:Y->Prop}{eH:Y->ae OA}{F2:Y->ae aP}
 (hc:cK P fn as captured k1 F1 val k1' fs pr) (hn:Nat.blt d n=true:=by rfl) (hg:cO l g=true:=by rfl) (hf:ev l f=.func fn ⟨first⟩ ⟨captured⟩:=by rfl) (hx:EvL (ev l) xs vs:=by exact UC) (ha:first++vs=as:=by rfl)
 (hk:aO k1 kl bD:=by exact mP) (hF:Sub F1 F:=by exact mE)
 (hak:∀y,dO (k1' y) bD (eH y):=by exact qy) (qI:∀y,dO (fs y) F (F2 y):=by exact qy)
 (hs:∀y,pr y->Same P re (ev ((d,val y)::l)) ((d,val y)::l) B w0 (eH y) (F2 y):=by exact UB)
 (next:∀y,pr y->R (λh=>aJ P ds rest (act n ((d,val y)::l) D pm ro) h K) B w0 (eH y) (F2 y)):
 R (λh=>aJ P ds (⟨⟨some d,g,.call f xs⟩,re⟩::rest) (act n l D pm ro) h K) B w0 kl F:=
 afu hc hn hg hf hx ha hk hF (λy hy=>by rw[(hak y).eq,(qI y).eq];exact hs y hy) (λy hy=>by rw[(hak y).eq,(qI y).eq];exact next y hy)
abbrev dL(P:Program)(f:iI)(args:ae ah)(F:ae aP)(v:ah):Prop:=cK P (.func f) args [] [] F (λ_:Unit=>v) (λ_=>[]) (λ_=>[]) (λ_=>True)
abbrev UF{α:Type}(P:Program)(f:iI)(args:ae ah)(F:ae aP)(E:Enc α)(ys:ae α):Prop:=cK P (.func f) args [] [] F (λv:ah=>v) (λ_=>[]) (λv=>[aj E v ys]) (λ_=>True)
variable{l0:qr}{args cap:ae ah}{c:dA}{m:Nat}
def jH{f:iI}{kl:ae OA}{F:ae aP}{val:Y->ah}{kl':Y->ae OA}{fs:Y->ae aP}{pr:Y->Prop}(cf:iF)(hF:(mg P rG rH).F f=some cf)
 (hb:∀B w0,R (λh=>EV P c (act m l0 [] none none) h (xA cf (Left B w0 val kl' fs pr))) B w0 kl F)
 (h1:cf.body=c:=by exact UD) (h2:rE cf.ntmps (je (args++cap))=m:=by conv=>lhs;whnf) (h3:rQ 0 (args++cap) []=l0:=by exact JK):cK P (.func f) args cap kl F val kl' fs pr:=
 afq cf hF (by rw[h1,h2,h3];exact hb)
def gB{kl:ae OA}{F:ae aP}{val:Y->ah}{kl':Y->ae OA}{fs:Y->ae aP}{pr:Y->Prop}(f:iI)(hb:∀B w0,R (λh=>EV P c (act m l0 [] none none) h (xA (oQ P f) (Left B w0 val kl' fs pr))) B w0 kl F)(h:(lD P f).isSome=true:=by kernel_rfl)(h1:(oQ P f).body=c:=by exact UD)(h2:rE (oQ P f).ntmps (je (args++cap))=m:=by conv=>lhs;whnf)(h3:rQ 0 (args++cap) []=l0:=by exact JK):cK P (.func f) args cap kl F val kl' fs pr:=jH _ (vR f h) hb h1 h2 h3
def OE{α:Type}(E:Enc α){x i:ay}{v:ah}{xs:ae α}{size:Nat}{k:Nat}{kk:IntKind}{F2:α->E.Y->ae aP}(hn:Nat.blt d n=true:=by rfl)(hg:cO l g=true:=by rfl)(hx:ev l x=v:=by conv=>lhs;whnf)(hi:ev l i=.int kk (k:Int):=by rfl)
 (hf:aj E v xs∈F:=by exact iP) (hs:E.n=size:=by rfl) (h1:k<xs.length:=by omega)
 (ha:∀z y,dO (E.fs z y) F (F2 z y):=by exact Dw)
 (next:∀b o z y,xs[k]? =some z->R (λh=>aJ P ds rest (act n ((d,.pointer (some ⟨b,o,none⟩))::l) D pm ro) h K) B w0 kl (eZ b o (E.pat z y)::F2 z y)):
 R (λh=>aJ P ds (⟨⟨some d,g,.oq size x i⟩,[]⟩::rest) (act n l D pm ro) h K) B w0 kl F:=
 (Oz hn hg hx hi hf hs tr tr).h λb o z y hz=>by rw[(ha z y).eq];exact next b o z y A0
def fE{o:Out}{cf:iF}{val:Y->ah}{k1:Y->ae OA}{fs:Y->ae aP}{pr:Y->Prop}(y:Y)
 (hr:RS l kl cf.results vs:=by exact yN) (hv:rR vs=val y:=by rfl) (hp:pr y)
 (hk:aO (k1 y) kl bD:=by exact mP) (hF:Sub (fs y) F:=by exact mE)
 (ho:o=.normal\/o=.ret:=by exact OD):R (λh=>xA cf (Left B w0 val k1 fs pr) o (act n l [] none ro) h) B w0 kl F:=
 UA y hr hv hp hk hF ho
def tu{A:OA}{fs F2:ae aP}{Q:IH->Prop}(hA:sZ A fs)(hk:aD A kl kl':=by exact fB)(ha:dO fs F F2:=by exact FV)(h:R Q B w0 kl' F2):R Q B w0 kl F:=
 afn hA hk (by rw[ha.eq];exact h)
variable{X:Type}
def dX{c:dA}{L2:X->qr}{wB:X->ae OA}{wC:X->ae aP}(m:X->Nat)(L:X->qr)(KL:X->ae OA)(FF:X->ae aP)(inv:X->Prop)(x0:X)(hi:inv x0)
 (h0:uN l (L x0) l0:=by exact JJ) (hl:sub (L x0++l0) l:=by exact FW)
 (hk:aO (KL x0) kl bD:=by exact mP) (hF:Sub (FF x0) F:=by exact mE)
 (hak:∀x,dO (KL x) bD (wB x):=by exact qy) (qI:∀x,dO (FF x) F (wC x):=by exact qy)
 (hal:∀x,dO (L x) l0 (L2 x):=by exact qy)
 (body:∀x,inv x->R (λh=>EV P c (act n (L2 x) D pm ro) h (wz (LI n D pm ro B w0 m L KL FF inv l0 bD F) (m x) K)) B w0 (wB x) (wC x)):
 R (λh=>EV P (.loop c) (act n l D pm ro) h K) B w0 kl F:=
 afv m L KL FF inv x0 hi l0 hl hk hF λx hx=>by rw[(hak x).eq,(qI x).eq,(hal x).eq];exact body x hx
def aQ{m:X->Nat}{L:X->qr}{KL:X->ae OA}{FF:X->ae aP}{inv:X->Prop}{FX eH:ae OA}{F0:ae aP}{m0:Nat}(x:X)(hm:m x<m0)(hi:inv x)
 (hl:sub (L x++l0) l:=by exact FW) (ha:dO (KL x) bD FX:=by exact FV)
 (hk:aO FX kl eH:=by exact mP) (hF:Sub (FF x) F:=by exact mE)
 (BD:oC F0 F:=by exact UE):
 R (λh=>wz (LI n D pm ro B w0 m L KL FF inv l0 bD F0) m0 K .normal (act n l D pm ro) h) B w0 kl F:=
 afw x hm hi hl (by rw[ha.eq];exact hk) hF BD
end
end Go.Ideal
namespace Go.Ideal
class zX (e:Bool) (f t:outParam Prop):Prop where
 no:e=false->f
 yes:e=true->t
instance (priority:=low) aoD {e:Bool}:zX e (e=false) (e=true):=⟨id,id⟩
instance aoE {p:Prop} {_:Decidable p}:zX (decide p) (¬p) p:=⟨ol,gT⟩
instance aoF {p:Prop} {_:Decidable p}:zX (!decide p) p (¬p):=⟨λe=>by simpa using e,λe=>by simpa using e⟩
section
variable {P:Program}
variable {B:ae Nat} {w0:Wd} {kl:ae OA} {F:ae aP} {K:KO} {ds:ae Tmp} {rest:ae bY} {n:Nat} {l:qr} {D:ae Deferred} {pm:ak FrameMode} {ro:ak Nat} {t1 t2:Nat}
def gG{e:Bool}{f t:Prop}[zX e f t](h1:f->R (λh=>aJ P ds rest (act n ((t1,.bool false)::(t2,.bool false)::l) D pm ro) h K) B w0 kl F)(h2:t->R (λh=>aJ P ds rest (act n ((t1,.bool true)::(t2,.bool true)::l) D pm ro) h K) B w0 kl F):
 R (λh=>aJ P ds rest (act n ((t1,.bool e)::(t2,.bool e)::l) D pm ro) h K) B w0 kl F:=
 mQ (λx=>h1 (zX.no x)) (λx=>h2 (zX.yes x))
end
section
instance aoG {n:Nat}:OfNat ay n:=⟨.tmp n⟩
abbrev vS:ah:=.slice none 0 0
abbrev vE:ah:=.string ⟨⟨[]⟩⟩
abbrev kC(f:Nat)(l:ae ay):aH:=.call (.func f) l
abbrev kS(n:Nat)(e:aH):bY:=⟨⟨some n,none,e⟩,[]⟩
abbrev kN(e:aH):bY:=⟨⟨none,none,e⟩,[]⟩
abbrev kM(n:Nat)(x:ay):bY:=kS n (.mv x)
abbrev kO(l:ae bY):dA:=.ops (l.filterMap λx=>x.s.dst) l
end
variable {P:Program}
section
variable {B:ae Nat} {w0:Wd} {kl kl' bD:ae OA} {F:ae aP} {K:KO} {ds:ae Tmp} {rest:ae bY} {n:Nat} {l:qr} {D:ae Deferred} {pm:ak FrameMode} {ro:ak Nat} {d:Nat} {g:ak (Tmp×Bool)}
variable{G:Prop}
def aB{c:ay}{x y:dA}{p:Prop}{ip:Decidable p}(h1:p->R (λh=>EV P x (act n l D pm ro) h K) B w0 kl F)(h2:¬p->R (λh=>EV P y (act n l D pm ro) h K) B w0 kl F)
 (r:dz G (R (λh=>EV P (.cond c x y) (act n l D pm ro) h K) B w0 kl F):=by exact yO) (hc:ev l c=.bool (decide p):=by exact rfl):G:=r.h (jC hc h1 h2)
variable{o:Out}{cf:iF}{vs:ae ah}{val:Unit->ah}{k1:Unit->ae OA}{fs:Unit->ae aP}{pr:Unit->Prop}
def aM(hv:rR vs=val ())(r:dz G (R (λh=>xA cf (Left B w0 val k1 fs pr) o (act n l [] none ro) h) B w0 kl F):=by exact yO)(hr:RS l kl cf.results vs:=by exact yN)(hp:pr ():=by exact trivial)(hk:aO (k1 ()) kl bD:=by exact mP)(hF:Sub (fs ()) F:=by exact mE)(ho:o=.normal\/o=.ret:=by exact OD):G:=r.h (fE () (hr:=hr) (hv:=hv) (hp:=hp) (hk:=hk) (hF:=hF) (ho:=ho))
def fH(r:dz G (R (λh=>xA cf (Left B w0 val k1 fs pr) o (act n l [] none ro) h) B w0 kl F):=by exact yO)(hr:RS l kl cf.results vs:=by exact yN)(hv:rR vs=val ():=by exact rfl)(hp:pr ():=by exact trivial)(hk:aO (k1 ()) kl bD:=by exact mP)(hF:Sub (fs ()) F:=by exact mE)(ho:o=.normal\/o=.ret:=by exact OD):G:=r.h (fE () (hr:=hr) (hv:=hv) (hp:=hp) (hk:=hk) (hF:=hF) (ho:=ho))
variable{Y:Type}
def gC
 {f:ay}
 {xs:ae ay}
 {re:ae iU}
 {fn:Fn}
 {first captured vs as:ae ah}
 {k1:ae OA}
 {F1:ae aP}
 {val:Y->ah}
 {k1':Y->ae OA}
 {fs:Y->ae aP}
 {pr:Y->Prop}
 {eH:Y->ae OA}
 {F2:Y->ae aP}
 (hc:cK P fn as captured k1 F1 val k1' fs pr)
 (next:∀y,pr y->R (λh=>aJ P ds rest (act n ((d,val y)::l) D pm ro) h K) B w0 (eH y) (F2 y))
 {G:Prop} (r:dz G (R (λh=>aJ P ds (⟨⟨some d,g,.call f xs⟩,re⟩::rest) (act n l D pm ro) h K) B w0 kl F):=by exact yO)
 (hn:Nat.blt d n=true:=by rfl)
 (hg:cO l g=true:=by rfl)
 (hf:ev l f=.func fn ⟨first⟩ ⟨captured⟩:=by rfl)
 (hx:EvL (ev l) xs vs:=by exact UC)
 (ha:first++vs=as:=by rfl)
 (hk:aO k1 kl bD:=by exact mP)
 (hF:Sub F1 F:=by exact mE)
 (hak:∀y,dO (k1' y) bD (eH y):=by exact qy)
 (qI:∀y,dO (fs y) F (F2 y):=by exact qy)
 (hs:∀y,pr y->Same P re (ev ((d,val y)::l)) ((d,val y)::l) B w0 (eH y) (F2 y):=by exact UB):G:=r.h (eO (hc:=hc) (hn:=hn) (hg:=hg) (hf:=hf) (hx:=hx) (ha:=ha) (hk:=hk) (hF:=hF) (hak:=hak) (qI:=qI) (hs:=hs) (next:=next))
variable{α:Type}
def gX
 {x i:ay}
 {v:ah}
 {xs:ae α}
 {size:Nat}
 {k:Nat}
 {kk:IntKind}
 (E:Enc α)
 {F2:α->E.Y->ae aP}
 (next:∀b o z y,xs[k]? =some z->R (λh=>aJ P ds rest (act n ((d,.pointer (some ⟨b,o,none⟩))::l) D pm ro) h K) B w0 kl (eZ b o (E.pat z y)::F2 z y))
 {G:Prop} (r:dz G (R (λh=>aJ P ds (⟨⟨some d,g,.oq size x i⟩,[]⟩::rest) (act n l D pm ro) h K) B w0 kl F):=by exact yO)
 (hn:Nat.blt d n=true:=by rfl)
 (hg:cO l g=true:=by rfl)
 (hx:ev l x=v:=by conv=>lhs;whnf)
 (hi:ev l i=.int kk (k:Int):=by rfl)
 (hf:aj E v xs∈F:=by exact iP)
 (hs:E.n=size:=by rfl)
 (h1:k<xs.length:=by omega)
 (ha:∀z y,dO (E.fs z y) F (F2 z y):=by exact Dw):G:=r.h (OE (E:=E) (hn:=hn) (hg:=hg) (hx:=hx) (hi:=hi) (hf:=hf) (hs:=hs) (h1:=h1) (ha:=ha) (next:=next))
def gQ
 {o:Out}
 {cf:iF}
 {vs:ae ah}
 {val:Y->ah}
 {k1:Y->ae OA}
 {fs:Y->ae aP}
 {pr:Y->Prop}
 (y:Y)
 (hp:pr y)
 (hr:RS l kl cf.results vs:=by exact yN)
 (hv:rR vs=val y:=by rfl)
 (hk:aO (k1 y) kl bD:=by exact mP)
 (hF:Sub (fs y) F:=by exact mE)
 (ho:o=.normal\/o=.ret:=by exact OD):R (λh=>xA cf (Left B w0 val k1 fs pr) o (act n l [] none ro) h) B w0 kl F:=fE (y:=y) (hr:=hr) (hv:=hv) (hp:=hp) (hk:=hk) (hF:=hF) (ho:=ho)
def gL{X:Type}
 {c:dA}
 {l0:qr}
 {L2:X->qr}
 {wB:X->ae OA}
 {wC:X->ae aP}
 (m:X->Nat) (L:X->qr) (inv:X->Prop) (x0:X) (hi:inv x0)
 (body:∀x,inv x->R (λh=>EV P c (act n (L2 x) D pm ro) h (wz (LI n D pm ro B w0 m L (λ_=>[]) (λ_=>[]) inv l0 bD F) (m x) K)) B w0 (wB x) (wC x))
 {G:Prop} (r:dz G (R (λh=>EV P (.loop c) (act n l D pm ro) h K) B w0 kl F):=by exact yO)
 (h0:uN l (L x0) l0:=by exact JJ)
 (hl:sub (L x0++l0) l:=by exact FW)
 (hk:aO ([]) kl bD:=by exact mP)
 (hF:Sub ([]) F:=by exact mE)
 (hak:∀x,dO ([]) bD (wB x):=by exact qy)
 (qI:∀x,dO ([]) F (wC x):=by exact qy)
 (hal:∀x,dO (L x) l0 (L2 x):=by exact qy):G:=r.h (dX (m:=m) (L:=L) (KL:=λ_=>[]) (FF:=λ_=>[]) (inv:=inv) (x0:=x0) (hi:=hi) (h0:=h0) (hl:=hl) (hk:=hk) (hF:=hF) (hak:=hak) (qI:=qI) (hal:=hal) (body:=body))
def gN{c:dA}
 {l0:qr}
 {L2:Nat->qr}
 {wB:Nat->ae OA}
 {wC:Nat->ae aP}
 (N q:Nat) (inv:Nat->Prop) (hi:inv 0)
 (body:∀x,inv x->R (λh=>EV P c (act n (L2 x) D pm ro) h (wz (LI n D pm ro B w0 (λk=>N - k) (λk:Nat=>[(q,.int .i64 (k:Int))]) (λ_=>[]) (λ_=>[]) inv l0 bD F) (N - x) K)) B w0 (wB x) (wC x))
 {G:Prop} (r:dz G (R (λh=>EV P (.loop c) (act n l D pm ro) h K) B w0 kl F):=by exact yO)
 (h0:uN l ([(q,.int .i64 ((0:Nat):Int))]) l0:=by exact JJ)
 (hl:sub ([(q,.int .i64 ((0:Nat):Int))]++l0) l:=by exact FW)
 (hk:aO ([]) kl bD:=by exact mP)
 (hF:Sub ([]) F:=by exact mE)
 (hak:∀x,dO ([]) bD (wB x):=by exact qy)
 (qI:∀x,dO ([]) F (wC x):=by exact qy)
 (hal:∀x,dO ([(q,.int .i64 (x:Int))]) l0 (L2 x):=by exact qy):G:=r.h (dX (m:=(λk=>N - k)) (L:=(λk:Nat=>[(q,.int .i64 (k:Int))])) (KL:=λ_=>[]) (FF:=λ_=>[]) (inv:=inv) (x0:=(0:Nat)) (hi:=hi) (h0:=h0) (hl:=hl) (hk:=hk) (hF:=hF) (hak:=hak) (qI:=qI) (hal:=hal) (body:=body))
variable{Q:IH->Prop}
def gF(E:Enc α)(v:ah)(xs:ae α)(h:∀a c,v=.slice a xs.length c->R Q B w0 kl F)(hf:aj E v xs∈F:=by exact iP):R Q B w0 kl F:=afB hf h
variable{F2:ae aP}
def gZ{A:OA}{fs:ae aP}(hA:sZ A fs)(h:R Q B w0 kl' F2)(hk:aD A kl kl':=by exact fB)(ha:dO fs F F2:=by exact FV):R Q B w0 kl F:=tu hA hk ha h
def gP{cs:ae ah}(b:Nat)(h:R Q B w0 kl' F2)(hk:aD (pt b (.cells cs)) kl kl':=by exact fB)(ha:dO [eZ b 0 cs] F F2:=by exact FV):R Q B w0 kl F:=tu aeJ hk ha h
def gH{t1 t2:Nat}{e:Bool}{f t:Prop}(h1:f->R (λh=>aJ P ds rest (act n ((t1,.bool false)::(t2,.bool false)::l) D pm ro) h K) B w0 kl F)(h2:t->R (λh=>aJ P ds rest (act n ((t1,.bool true)::(t2,.bool true)::l) D pm ro) h K) B w0 kl F)
 (r:dz G (R (λh=>aJ P ds rest (act n ((t1,.bool e)::(t2,.bool e)::l) D pm ro) h K) B w0 kl F):=by exact yO) (i:zX e f t:=by exact inferInstance):G:=r.h (have _q:zX e f t:=i;gG h1 h2)
abbrev iV(n:Int):ah:=.int .i64 n
abbrev fC(P:Program){Y:Type}(f:iI)(args:ae ah)(F:ae aP)(v:Y->ah)(Q:Y->Prop):Prop:=cK P (.func f) args [] [] F v (λ_=>[]) (λ_=>[]) Q
end
end Go.Ideal
namespace Go.Ideal
noncomputable def JL(L:Lay):Wd:=⟨lG L,λi=>i<(lG L).next,λ_ h=>h⟩
open Go.ChangeShapes Go.WideShapes Go.ChangeAt Go.RowKit
variable {P:Program}
def Dx{α:Type}(P:Program)(t:aC)(E:Enc α):Prop:=∀(w:Wd) (H:Type) (d:DataW H) (cs:ae ah),(∀i,i<w.h.next->w.z i)->iZ P w.h t cs d->∃a y,cs=E.pat a y/\∀f∈E.fs a y,f.p w
def OG{α:Type}{p:Nat->α->Prop}:∀n,(∀k,k<n->∃a,p k a)->∃l:ae α,l.length=n/\∀(k:Nat) a,l[k]? =some a->p k a
 |0,_=>⟨[],rfl,λk a h=>by cases h⟩
 |n+1,h=>by
  obtain⟨l,h1,h2⟩:=OG n (λk hk=>h k tr);obtain⟨a,ha⟩:=h n tr;refine⟨l++[a],by simp[h1],λk b hb=>?_⟩;by_cases hk:k<l.length
  .rw[pG hk]at hb;exact h2 k b hb
  .rw[rq tr]at hb;have hk0:k=n:=by have:=(bC.1 hb).1;simp at this;omega
   subst hk0;rw[h1]at hb;simp at hb;subst hb;exact ha
def UG{α β:Type}(E1:Enc α)(E2:Enc β):Enc (α×β):=⟨E1.n+E2.n,E1.Y×E2.Y,λa y=>E1.pat a.1 y.1++E2.pat a.2 y.2,λa y=>E1.fs a.1 y.1++E2.fs a.2 y.2,λa y=>by rw[ik,E1.len,E2.len]⟩
def UH:Enc Unit:=⟨0,Unit,λ_ _=>[],λ_ _=>[],λ_ _=>rfl⟩
inductive Dy(P:Program):{α:Type}->List Field->Enc α->Prop
 |nil:Dy P [] UH
 |cons {α β:Type} {f:Field} {fs:List Field} {E1:Enc α} {E2:Enc β} (h:Dx P f.type E1) (hn:P.cellsOf f.type=E1.n) (t:Dy P fs E2):Dy P (f::fs) (UG E1 E2)
def Dy.JM{w:Wd}{H:Type}(hz:∀i,i<w.h.next->w.z i):∀{α:Type} {fs:ae Field} {E:Enc α},Dy P fs E->∀(o0:Nat) (cs:ae ah) (ds:ae (DataW H)),cs.length=(fs.map λf=>P.cellsOf f.type).sum->ds.length=fs.length->
 fs.map (·.offset)=sums o0 (fs.map λf=>P.cellsOf f.type)->(∀(j:Nat) f d,fs[j]? =some f->ds[j]? =some d->iZ P w.h f.type ((cs.drop (f.offset - o0)).take (P.cellsOf f.type)) d)->∃a y,cs=E.pat a y/\∀f∈E.fs a y,f.p w
 |_,_,_,.nil,o0,cs,ds,h1,h2,h3,h4=>⟨(),(),jX.1 ur,λf hf=>by cases hf⟩
 |_,_,_,.cons (f:=f) (fs:=fs) (E1:=E1) (E2:=E2) h hn t,o0,cs,ds,h1,h2,h3,h4=>by
  match ds,h2 with
  |d::ds,h2=>
   simp only[iQ,List.sum_cons,sums,CG]at h1 h3;obtain⟨ho,h3⟩:=h3;have r0:=h4 0 f d rfl rfl;rw[ho,xZ,AY]at r0;obtain⟨a,y,q1,q2⟩:=h w H d _ hz r0;obtain⟨b,z,u1,u2⟩:=Dy.JM hz t (o0+P.cellsOf f.type) (cs.drop (P.cellsOf f.type)) ds vf wj h3 (λj g e hg he=>by
    exact cN)
   refine⟨(a,b),(y,z),?_,?_⟩
   .show cs=E1.pat a y++E2.pat b z;rw[<- q1,<- u1,xX]
   .exact qe
def Dx.conv{α β:Type}{t:aC}{E:Enc α}{E':Enc β}(h:Dx P t E)(hc:∀a y,∃b z,E.pat a y=E'.pat b z/\E.fs a y=E'.fs b z):Dx P t E':=λw H d cs hz r=>by
 obtain⟨a,y,q1,q2⟩:=h w H d cs hz r;obtain⟨b,z,e1,e2⟩:=hc a y;exact⟨b,z,by rw[q1,e1],λf hf=>q2 f (by rw[e2];exact hf)⟩
section
variable {H:Type} {enc:aC×ah->H} {W:World} {K:aC->Prop}
def zY(P:Program)(w:Wd)(t:aC)(v:ah){H:Type}(d:DataW H):Prop:=∃cs,iZ P w.h t cs d/\((kH P t=true/\v=.agg ⟨cs⟩)\/(kH P t=false/\cs=[v]))
variable{α:Type}{w:Wd}{t:aC}{v:ah}{d:DataW H}
def zY.agg{E:Enc α}(h:zY P w t v d)(hz:∀i,i<w.h.next->w.z i)(ha:kH P t=true)(hr:Dx P t E):∃a y,v=.agg ⟨E.pat a y⟩/\∀f∈E.fs a y,f.p w:=by
 exact kq
def zY.one{E:Enc α}(h:zY P w t v d)(hz:∀i,i<w.h.next->w.z i)(ha:kH P t=false)(hr:Dx P t E):∃a y,E.pat a y=[v]/\∀f∈E.fs a y,f.p w:=by
 obtain⟨cs,r,⟨e,_⟩|⟨_,e⟩⟩:=h
 .rw[ha]at e;cases e
 .obtain⟨a,y,q0,q⟩:=hr w H d cs hz r;exact⟨a,y,by rw[<- q0,e],q⟩
variable{L:Lay}
def afF{v0:ah}(hw:w.h=lG L)(r:zU P (lG L) t v d)(hv:VR (kw L) v v0)(hok:Value.okWide P W .any 0 t v0):zY P w t v d:=by
 obtain⟨cs,r1,h2,h3⟩:=r;refine⟨cs,by rw[hw];exact r1,?_⟩;cases ha:kH P t with
 |true=>
  left;refine⟨rfl,?_⟩;rcases h3 with e|e
  .subst e;have hagg:∃c,v0=.agg c:=by
    unfold kH at ha;unfold Value.okWide at hok;split at ha
    .rename_i fs hu;exact sE
    .rename_i n e hu;exact sE
    .cases ha
   obtain⟨c,rfl⟩:=hagg
   exfalso
   cases hv<;>simp[cellV]at h2
  .exact e
 |false=>
  right;refine⟨rfl,?_⟩;rcases h3 with e|e
  .exact e
  .subst e
   exfalso
   cases hv with
   |agg hc hl=>
    cases hu:P.underlying t with
    |none=>simp[Value.okWide,Cell.okWide,Cell.ok,hu]at hok
    |some d=>cases d<;>simp[Value.okWide,Cell.okWide,Cell.ok,kH,hu]at hok ha
def afG{ts:ae aC}{vs' vs:ae ah}(hv:aZ (kw L) vs' vs):∀(j:Nat) v',vs'[j]? =some v'->∃v,vs[j]? =some v/\VR (kw L) v' v:=by
 intro j;induction j generalizing vs' vs with
 |zero=>
  intro v' h;cases hv with
  |nil=>cases h
  |cons h1 h2=>cases h;exact⟨_,rfl,h1⟩
 |succ j ih=>
  intro v' h;cases hv with
  |nil=>cases h
  |cons h1 h2=>exact ih h2 v' h
def OH{a:Nat}{b:Nat->Bool}{c:Bool}:∀{ts:ae aC} {vs:ae ah} {ds:ae (DataW H)} {ps:ae MemPlace},DataW.TrodAll enc P W a b c ts vs ds ps->vs.length=ts.length/\ds.length=ts.length
 |[],[],[],_,_=>⟨rfl,rfl⟩
 |_::_,_::_,_::_,_,⟨_,_,_,h,_⟩=>by
  have:=OH h;simp[this.1,this.2]
def JN{l:ae α}(h:l.length=3):∃a b c,l=[a,b,c]:=by
 match l,h with
 |[a,b,c],_=>exact⟨a,b,c,rfl⟩
end
end Go.Ideal
namespace Go.Ideal
variable {P:Program}
def tC(P:Program)(cf:iF)(K:KR):KO:=λo a h=>match vP o with
 |none=>False
 |some m=>LEAVE P cf a.tmps a.defers m h λr h''=>K r a.pm h''
def afH{Y:Type}{f:iI}{args cap:ae ah}{kl:ae OA}{F:ae aP}{val:Y->ah}{kl':Y->ae OA}{fs:Y->ae aP}{pr:Y->Prop}{c:dA}{m:Nat}{l0:qr}(cf:iF)(hF:(mg P rG rH).F f=some cf)
 (hb:∀B w0,R (λh=>EV P c (act m l0 [] none none) h (tC P cf (Left B w0 val kl' fs pr))) B w0 kl F)
 (h1:cf.body=c:=by exact UD) (h2:rE cf.ntmps (je (args++cap))=m:=by conv=>lhs;whnf) (h3:rQ 0 (args++cap) []=l0:=by exact JK):cK P (.func f) args cap kl F val kl' fs pr:=by
 intro B w s;obtain⟨fn,e1,e2⟩:=(rP P rG rH (λf q h v h' hm=>by cases hm)).fn f cf hF;refine Ud cf fn e1 e2 ?_;rw[OC,h1,h2,h3];exact hb B w w s
section
variable {B:ae Nat} {w0:Wd} {kl kl' bD:ae OA} {F:ae aP} {K:KO} {n:Nat} {l:qr} {D:ae Deferred} {pm:ak FrameMode} {ro:ak Nat}
inductive kW:List OA->List Deferred->List OA->Prop
 |nil {kl:List OA}:kW kl [] kl
 |cons {kl kl' eH:List OA} {r:Nat} {args:Array Value} {D:List Deferred} (h:aD (pt r (.jE true)) kl kl') (t:kW kl' D eH):kW kl ({target:=.collected r,args}::D) eH
def kW.leave{cf:iF}{ts:T ah}{Kr:ji->IH->Prop}:∀{D:ae Deferred} {kl eH:ae OA},kW kl D eH->(∀w',St B w0 eH F w'->∃v,rF cf.results ts w'.h=some v/\Kr (.ok v) w'.h)->∀w,St B w0 kl F w->LEAVE P cf ts D .returning w.h Kr
 |_,_,_,.nil,hk,w,s=>by
  obtain⟨v,h1,h2⟩:=hk w s;exact .ret v h1 h2
 |_,_,_,.cons (r:=r) h t,hk,w,s=>by
  have s1:=s.iw h;refine .coll xj r s1.get.1 ?_;exact kW.leave t hk _ (s1.write (o':=.jE false)).tail
variable{Y:Type}{o:Out}{eH:ae OA}
def afI{cf:iF}{vs:ae ah}{val:Y->ah}{k1:Y->ae OA}{fs:Y->ae aP}{pr:Y->Prop}(y:Y)(hD:kW kl D eH)(hr:RS l eH cf.results vs)(hv:rR vs=val y)(hp:pr y)(hk:aO (k1 y) eH bD)(hF:Sub (fs y) F)
 (ho:o=.normal\/o=.ret):R (λh=>tC P cf (Left B w0 val k1 fs pr) o (act n l D none ro) h) B w0 kl F:=by
 intro w s;have key:LEAVE P cf (jy l) D .returning w.h λr h''=>Left B w0 val k1 fs pr r none h'':=by
  refine kW.leave hD (λw' s'=>⟨val y,?_,rfl,w',y,rfl,((s'.kV hk).drop).sub hF,rfl,hp⟩) w s;unfold rF;rw[hr.all s',<- hv];exact pb
 rcases ho with rfl|rfl
 .exact key
 .exact key
def zZ(L:qo):qo:={L with state:=.busy}
def qb(L:qo)(o:Out):qo:=match o with
 | .normal=>{L with state:=.ready,pending:=none}
 |o=>{L with state:=.done,pending:=some o}
def rT(o:Out):Bool:=match o with
 | .normal=>true
 |_=>false
def FY(o:Out):Prop:=match o with
 | .panic _=>False
 |_=>True
def FZ{Y:Type}(B:ae Nat)(w0:Wd)(lo:Nat)(L:qo)(out:Y->Out)(k1:Y->ae OA)(fs:Y->ae aP)(pr:Y->Prop):KO:=λo a h=>
 a.defers=[]/\∃(w:Wd) (y:Y),w.h=h/\o=out y/\FY o/\St B w0 (pt lo (.loop (zZ L))::k1 y) (fs y) w/\pr y
def afJ{lo:Nat}{L:qo}{out:Y->Out}{k1:Y->ae OA}{fs:Y->ae aP}{pr:Y->Prop}(y:Y)(ho:o=out y)(hn:FY o)(hp:pr y)(hk:aO (pt lo (.loop (zZ L))::k1 y) kl eH)(hF:Sub (fs y) F):
 R (λh=>FZ B w0 lo L out k1 fs pr o (act n l [] none ro) h) B w0 kl F:=λw s=>⟨rfl,w,y,rfl,ho,hn,((s.kV hk).drop).sub hF,hp⟩
def UI(n:Nat):∀(ps:ae Tmp) (args:ae ah) (l:qr),ps.all (λp=>Nat.blt p n)=true->ps.length=args.length->∃l2,vQ n ps args (jy l)=jy l2/\l2=(ps.zip args).reverse++l
 |[],[],l,_,_=>⟨l,rfl,rfl⟩
 |p::ps,v::args,l,h,e=>by
  simp only[CE,dI]at h;obtain⟨l2,h1,h2⟩:=UI n ps args ((p,v)::l) h.2 tW;refine⟨l2,?_,by rw[h2];simp⟩;rw[<- h1];show vQ n ps args (cond (Nat.blt p n) ((jy l).set p (some v)) (jy l))=_;rw[h.1];rfl
def afK{f:ay}{ps:ae Tmp}{assign body:dA}{fn:Fn}{first captured:ae ah}{k1:ae OA}{F1:ae aP}{OI:Y->ah}{out:Y->Out}{k1':Y->ae OA}{fs:Y->ae aP}{pr:Y->Prop}
 (hf:ev l f=.func fn ⟨first⟩ ⟨captured⟩)
 (it:∀lo r,cK P fn (first++[.func (.yield lo) #[] #[]]) captured (pt lo (.loop ⟨.ready,none,jy l,n,ps,assign,body,r⟩)::k1) F1 OI (λy=>pt lo (.loop (qb ⟨.ready,none,jy l,n,ps,assign,body,r⟩ (out y)))::k1' y) fs pr)
 (hk:aO k1 kl bD) (hF:Sub F1 F)
 (next:∀r y,pr y->R (λh=>K (out y) (act n l ({target:=.collected r,args:= #[]}::D) pm none) h) B w0 (k1' y++(pt r (.jE true)::bD)) (fs y++F)):
 R (λh=>EV P (.rangeFunc f ps assign body) (act n l D pm none) h K) B w0 kl F:=by
 intro w s;let L:Nat->qo:=λr=>⟨.ready,none,jy l,n,ps,assign,body,r⟩
 let r:=w.h.next
 let w1:=w.new (.jE true)
 have s1:St B w0 (pt r (.jE true)::kl) F w1:=s.new _;let lo:=w1.h.next
 let w2:=w1.new (.loop (L r))
 have s2:St B w0 (pt lo (.loop (L r))::pt r (.jE true)::kl) F w2:=s1.new _;have s3:St B w0 ((pt lo (.loop (L r))::k1)++(pt r (.jE true)::bD)) F w2:=s2.kV (k:=pt lo (.loop (L r))::k1) (kl':=pt r (.jE true)::bD) (.cons .here (by
  have:∀{k kl bD:ae OA} (A:OA),aO k kl bD->aO k (A::kl) (A::bD):=by
   intro k kl bD A h;exact pA
  exact this _ hk))
 obtain⟨S,h1,h2,h3⟩:=s3.own;obtain⟨S1,S2,q1,q2,hp⟩:=h1.kV (k:=pt lo (.loop (L r))::k1) (kl':=pt r (.jE true)::bD) (by
  have:∀(k kr:ae OA),aO k (k++kr) kr:=by
   intro k kr;induction k with
   |nil=>exact .nil
   |cons A k ih=>exact .cons .here ih
  exact this _ _)
 have hsub:∀i∈S1,i∈S:=λi hi=>hp.mem_iff.2 (lq _ hi);have st1:St S1 w2 (pt lo (.loop (L r))::k1) F1 w2:=⟨⟨bQ _,λ_ _ _=>rfl,λ_ _=>rfl⟩,Wd.Le.refl w2,λi _ hz=>.inl hz,⟨S1,q1,(iT.1 (hp.nodup h2)).1,λi hi=>⟨.inr hi,(h3 i (hsub i hi)).2⟩⟩,λf hf=>s2.facts f (hF.mem f hf)⟩
 have hc:=it lo r S1 w2 st1;refine .rangeFunc fn first captured (by rw[oz];exact hf) (act n l ({target:=.collected r,args:= #[]}::D) pm none) w1.h r (.inl ⟨rfl,rfl,rfl,rfl⟩) (Left S1 w2 OI (λy=>pt lo (.loop (qb (L r) (out y)))::k1' y) fs pr) ?_ ?_ ?_
 .rw[jQ];exact hc
 .rintro v pm' h' ⟨rfl,w',y,rfl,c,hv,hpr⟩;have sc:St B w0 ((pt lo (.loop (qb (L r) (out y)))::k1' y)++(pt r (.jE true)::bD)) (fs y++F) w':=s3.call (k1:=pt lo (.loop (L r))::k1) (F1:=F1) ⟨S,hp,h2,h3⟩ q2 c;have hg:=(show St B w0 (pt lo (.loop (qb (L r) (out y)))::(k1' y++(pt r (.jE true)::bD))) (fs y++F) w' from sc).get;refine⟨qb (L r) (out y),hg.1,?_,?_⟩
  .cases out y<;>simp[qb]
  .have e:(qb (L r) (out y)).pending.getD .normal=out y:=by cases out y<;>rfl
   rw[e];exact next r y hpr _ (St.write (o':=.loop {qb (L r) (out y)with state:=.exhausted}) sc).tail
 .rintro ch pm' h' ⟨rfl,w',y,rfl,c,hv,hpr⟩;cases hv
end
end Go.Ideal
namespace Go.Ideal
variable {P:Program}
def kK{S α:Type}(step:S->α->S×Bool):S->ae α->S
 |s,[]=>s
 |s,x::xs=>match step s x with
  |(s',true)=>kK step s' xs
  |(s',false)=>s'
def oF{S α:Type}(step:S->α->S×Out):S->ae α->S×Out
 |s,[]=>(s,.normal)
 |s,x::xs=>match step s x with
  |(s',.normal)=>oF step s' xs
  |(s',o)=>(s',o)
def Sub.refl'{α:Type}:∀(l k:ae α),Sub l (k++l)
 |[],_=>.nil
 |a::l,k=>.cons (pI _ (fT ..)) (by have:=Sub.refl' l (k++[a]);rwa [gz]at this)
def Sub.app{α:Type}:∀{k1 k2 l:ae α},Sub k1 l->Sub k2 l->Sub (k1++k2) l
 |_,_,_,.nil,h=>h
 |_,_,_,.cons h h1,h2=>.cons h (h1.app h2)
section
variable {B:ae Nat} {w0:Wd} {kl kl' bD:ae OA} {F:ae aP} {K:KO} {n:Nat} {l:qr} {D:ae Deferred} {pm:ak FrameMode} {ro:ak Nat}
def UJ{S α:Type}{step:S->α->S×Out}:∀(xs:ae α) (s:S),kK (λ(so:S×Out) x=>(step so.1 x,rT (step so.1 x).2)) (s,Out.normal) xs=oF step s xs
 |[],s=>rfl
 |x::xs,s=>by
  have ih:=UJ (step:=step) xs;simp only[kK,oF];cases h:step s x with
  |mk s' o=>
   cases o with
   |normal=>simp only[rT];exact ih s'
   |_=>simp only[rT]
end
end Go.Ideal
namespace Go.Ideal
variable {P:Program} {ρ:ay->ah}
def wrapN{m:Nat}(h:m<9223372036854775808):IntKind.i64.wrap (m:Int)=m:=wrap64 tr tr
variable{a b:Nat}{x y:ay}{t:aC}
def F3(hx:ρ x=.int .i64 (a:Int))(hy:ρ y=.int .i64 (b:Int))(hb:b<64):Pu P ρ (.bin .shr t x y) (.int .i64 ((a>>>b:Nat):Int)):=λh=>by
 simp only[aH.run,hx,hy];rw[BC (op:=.shr) (v:=.int .i64 ((a>>>b:Nat):Int)) rfl (by
  show dZ P (Op.shift .shr .i64 a .i64 b)=_;unfold Op.shift;rw[if_neg tr];show some (Value.int .i64 ((a:Int).fdiv (2^(min (b:Int).toNat 64))))=_;exact gE) rfl]
def OJ(hx:ρ x=.int .i64 (a:Int))(hy:ρ y=.int .i64 (b:Int))(hb:b<64)(hr:a<<<b<9223372036854775808):Pu P ρ (.bin .shl t x y) (.int .i64 ((a<<<b:Nat):Int)):=λh=>by
 simp only[aH.run,hx,hy];rw[BC (op:=.shl) (v:=.int .i64 ((a<<<b:Nat):Int)) rfl (by
  show dZ P (Op.shift .shl .i64 a .i64 b)=_;unfold Op.shift;rw[if_neg tr];show some (Value.int .i64 (IntKind.i64.wrap ((a:Int)*2^(min (b:Int).toNat 64))))=_;rw[show min (b:Int).toNat 64=b by simp;omega];rw[show((a:Int)*2^b)=((a<<<b:Nat):Int)by rw[Mt];simp,wrapN hr]) rfl]
def JO(h:a<9223372036854775808):(BitVec.ofInt 64 (a:Int)).toNat=a:=by
 simp[BitVec.toNat_ofInt];omega
def F4(hx:ρ x=.int .i64 (a:Int))(hy:ρ y=.int .i64 (b:Int))(ha:a<9223372036854775808)(hb:b<9223372036854775808):Pu P ρ (.bin .and t x y) (.int .i64 ((a&&&b:Nat):Int)):=λh=>by
 simp only[aH.run,hx,hy];rw[BC (op:=.and) (v:=.int .i64 ((a&&&b:Nat):Int)) rfl (by
  show dZ P (Op.intBits .and .i64 a b)=_;show some (Value.int .i64 (IntKind.i64.wrap ((BitVec.ofInt 64 (a:Int)&&&BitVec.ofInt 64 (b:Int)).toNat:Int)))=_;rw[BitVec.toNat_and,JO ha,JO hb,wrapN (HZ Nat.and_le_left ha)]) rfl]
def OL(hx:ρ x=.int .i64 (a:Int))(hy:ρ y=.int .i64 (b:Int))(ha:a<9223372036854775808)(hb:b<9223372036854775808):Pu P ρ (.bin .or t x y) (.int .i64 ((a|||b:Nat):Int)):=λh=>by
 simp only[aH.run,hx,hy];rw[BC (op:=.or) (v:=.int .i64 ((a|||b:Nat):Int)) rfl (by
  show dZ P (Op.intBits .or .i64 a b)=_;show some (Value.int .i64 (IntKind.i64.wrap ((BitVec.ofInt 64 (a:Int)|||BitVec.ofInt 64 (b:Int)).toNat:Int)))=_;have:a|||b<2^63:=Mv tr tr;rw[BitVec.toNat_or,JO ha,JO hb,wrapN tr]) rfl]
end Go.Ideal
namespace Go.Ideal
variable {P:Program}
def JP{X:Type}(f:X->ae OA):OA:=⟨λw S=>∃x,fP w (f x) S,λa h ⟨x,hx⟩=>⟨x,fP.loc a h hx⟩⟩
def JQ{ρ:ay->ah}{x y:ay}{a b:Int}(hx:ρ x=.int .i64 a)(hy:ρ y=.int .i64 b):Pu P ρ (.A8 false [x,y]) (.int .i64 (min a b)):=λh=>by
 have e:lS ρ [x,y]=[.int .i64 a,.int .i64 b]:=by rw[vU];simp[hx,hy]
 simp only[aH.run,e,vN,cond];by_cases hb:a<=b
 .rw[uG,eB hb,Int.min_eq_left hb]
 .have:leZ a b=false:=by rw[uG,aY hb]
  rw[this,Int.min_eq_right tr]
section
variable {B:ae Nat} {w0:Wd} {kl kl' bD:ae OA} {F:ae aP} {K:KO} {n:Nat} {l:qr} {D:ae Deferred} {pm:ak FrameMode} {ro:ak Nat}
variable{X:Type}{Q:IH->Prop}
def JR{f:X->ae OA}{eH:X->ae OA}(hk:aD (JP f) kl kl':=by exact fB)(ha:∀x,dO (f x) kl' (eH x):=by intro x;repeat (first|exact dO.nil|apply dO.cons|exact dO.self|exact dO.app))(h:∀x,R Q B w0 (eH x) F):R Q B w0 kl F:=λw s=>by
 obtain⟨S,⟨S1,S2,⟨x,q1⟩,q2,e⟩,h2,h3⟩:=(s.iw hk).own;refine h x w ?_;rw[<- (ha x).eq];exact⟨s.agree,s.le,s.ig,⟨S,by rw[e];exact q1.app q2,h2,h3⟩,s.facts⟩
def JS(f:X->ae OA)(x:X){Q:IH->Prop}(hk:aO (f x) kl bD:=by exact mP)(h:R Q B w0 (JP f::bD) F):R Q B w0 kl F:=λw s=>by
 obtain⟨S,h1,h2,h3⟩:=s.own;obtain⟨S1,S2,q1,q2,hp⟩:=h1.kV hk;exact h w ⟨s.agree,s.le,s.ig,⟨S1++S2,⟨S1,S2,⟨x,q1⟩,q2,rfl⟩,hp.nodup h2,λi hi=>h3 i (hp.mem_iff.2 hi)⟩,s.facts⟩
def fM(g:aP)(hg:∀w:Wd,(∀f∈F,f.p w)->g.p w)(h:R Q B w0 kl (g::F)):R Q B w0 kl F:=λw s=>
 h w ⟨s.agree,s.le,s.ig,s.own,λf hf=>by
  rcases bT.1 hf with rfl|hf
  .exact hg w s.facts
  .exact s.facts f hf⟩
variable{α:Type}
def UK{E:Enc α}{w:Wd}{b f c:Nat}{v:ah}{xs:ae α}(h1:(eZ b 0 [v]).p w)(h2:(aj E v xs).p w)(hc:1<=c:=by first|exact bQ _|omega)(hf:f=0\/f=1:=by exact OD):(aj (aA E) (.slice (some ⟨b,0,some f⟩) 1 c) [xs]).p w:=by
 obtain⟨cells,q1,q2⟩:=h1;refine .inr ⟨b,0,f,c,cells,⟨rfl,hc,hf⟩,q1,λk x hk=>?_⟩;match k,hk with
 |0,hk=>
  cases hk;refine⟨v,λj u hj=>?_,λg hg=>by rw[bK.1 hg];exact h2⟩;have:=q2 j u hj;simpa using this
variable{Y:Type}
def JU{f:iI}{args cap:ae ah}{kl:ae OA}{F:ae aP}{val:Y->ah}{kl':Y->ae OA}{fs:Y->ae aP}{pr:Y->Prop}{c:dA}{m:Nat}{l0:qr}(cf:iF)(hF:(mg P rG rH).F f=some cf)
 (hb:∀B w0,R (λh=>EV P c (act m l0 [] none none) h (tC P cf (Left B w0 val kl' fs pr))) B w0 kl F)
 (h1:cf.body=c:=by exact UD) (h2:rE cf.ntmps (je (args++cap))=m:=by conv=>lhs;whnf) (h3:rQ 0 (args++cap) []=l0:=by exact JK):cK P (.func f) args cap kl F val kl' fs pr:=
 afH cf hF hb h1 h2 h3
variable{eH:ae OA}
def F5{o:Out}{cf:iF}{vs:ae ah}{val:Y->ah}{k1:Y->ae OA}{fs:Y->ae aP}{pr:Y->Prop}(y:Y)(hD:kW kl D eH:=by repeat (first|exact kW.nil|(apply kW.cons;(focus (repeat (first|with_reducible exact aD.here|with_reducible apply aD.there|with_reducible apply aD.app))))))
 (hr:RS l eH cf.results vs:=by exact yN) (hv:rR vs=val y) (hp:pr y)
 (hk:aO (k1 y) eH bD:=by exact mP) (hF:Sub (fs y) F:=by exact mE)
 (ho:o=.normal\/o=.ret:=by exact OD):R (λh=>tC P cf (Left B w0 val k1 fs pr) o (act n l D none ro) h) B w0 kl F:=
 afI y hD hr hv hp hk hF ho
def Dz{lo:Nat}{L:qo}{out:Y->Out}{k1:Y->ae OA}{fs:Y->ae aP}{pr:Y->Prop}{o:Out}(y:Y)(ho:o=out y)(hn:FY o)(hp:pr y)
 (hk:aO (pt lo (.loop (zZ L))::k1 y) kl eH:=by exact mP) (hF:Sub (fs y) F:=by exact mE):
 R (λh=>FZ B w0 lo L out k1 fs pr o (act n l [] none ro) h) B w0 kl F:=afJ y ho hn hp hk hF
def fI(E:Enc α){ds:ae Tmp}{rest:ae bY}{d:Nat}{g:ak (Tmp×Bool)}{e:aC}{size bytes b':Nat}{s x:ay}{v:ah}{xs:ae α}(a:α)(y:E.Y){cs:ae ah}{k1 k2:ae OA}
 (hm:(xs.length+1)*bytes<=1073741824/\(xs.length+1)*size<=1073741824/\xs.length+1<=1073741824)
 (next:∀ad,R (λh=>aJ P ds rest (act n ((d,.slice ad (xs.length+1) (xs.length+1))::l) D pm ro) h K) B w0 (ap E (.slice ad (xs.length+1) (xs.length+1)) (xs++[a])::k2) F)
 (hn:Nat.blt d n=true:=by rfl) (hg:cO l g=true:=by rfl)
 (hs:ev l s=v:=by conv=>lhs;whnf) (hx:ev l x=.slice (some ⟨b',0,some 0⟩) 1 1:=by rfl) (hk:aD (ap E v xs) kl k1:=by exact fB) (hc:aD (pt b' (.cells cs)) k1 k2:=by exact fB) (hp:cs=E.pat a y:=by rfl) (hF:Sub (E.fs a y) F:=by exact mE) (hz:E.n=size:=by rfl):
 R (λh=>aJ P ds (⟨⟨some d,g,.append e size bytes s x⟩,[]⟩::rest) (act n l D pm ro) h K) B w0 kl F:=
 (afo hn hg hs hx hk hc hp hF hz hm).h λv' w st=>by
   obtain⟨S,⟨S1,S2,q,_⟩,_⟩:=st.own;obtain⟨ad,e⟩:=Oy q;rw[ik,vI]at e;subst e;exact next ad w st
section
variable {ds:ae Tmp} {rest:ae bY} {d:Nat} {g:ak (Tmp×Bool)}
variable{x y:ay}
def F6{e:aC}{size bytes:Nat}{zero:ae ah}(m:Nat)(hm:m*bytes<=1073741824/\m*size<=1073741824/\m<=1073741824)
 (next:∀b,R (λh=>aJ P ds rest (act n ((d,.slice (some ⟨b,0,some 0⟩) m m)::l) D pm ro) h K) B w0 (pt b (.cells (zeros zero m))::kl) F)
 (hx:ev l x=.int .i64 (m:Int):=by rfl) (hy:ev l y=.int .i64 (m:Int):=by rfl) (hn:Nat.blt d n=true:=by rfl) (hg:cO l g=true:=by rfl):
 R (λh=>aJ P ds (⟨⟨some d,g,.A7 e size bytes zero x y⟩,[]⟩::rest) (act n l D pm ro) h K) B w0 kl F:=(afc hn hg hx hy hm).h next
variable{b o:Nat}{cs:ae ah}{v:ah}
def qJ{cs':ae ah}(hs:cs.set o v=cs')(ho:o<cs.length)
 (next:R (λh=>aJ P ds rest (act n l D pm ro) h K) B w0 (pt b (.cells cs')::kl') F)
 (hx:ev l x=.pointer (some ⟨b,o,none⟩):=by rfl) (hy:ev l y=v:=by rfl) (hv:cellsOf v=some [v]:=by rfl) (hk:aD (pt b (.cells cs)) kl kl':=by exact fB) (hg:cO l g=true:=by rfl):
 R (λh=>aJ P ds (⟨⟨none,g,.store 1 x y⟩,[]⟩::rest) (act n l D pm ro) h K) B w0 kl F:=by subst hs;exact(afi hg hx hy hv hk ho).h next
def tH(v:ah)(hv:cs[o]? =some v)
 (next:R (λh=>aJ P ds rest (act n ((d,v)::l) D pm ro) h K) B w0 kl F)
 (hx:ev l x=.pointer (some ⟨b,o,none⟩):=by rfl) (hk:aD (pt b (.cells cs)) kl kl':=by exact fB) (hn:Nat.blt d n=true:=by rfl) (hg:cO l g=true:=by rfl):
 R (λh=>aJ P ds (⟨⟨some d,g,.iE x⟩,[]⟩::rest) (act n l D pm ro) h K) B w0 kl F:=(afj hn hg hx hk hv).h next
def afL{i:ay}{xs:ae Int}(k:Nat)(z:Int){kk:IntKind}{d2:Nat}(hz:xs[k]? =some z)
 (next:∀b o,R (λh=>aJ P ds rest (act n ((d2,.int .i64 z)::(d,.pointer (some ⟨b,o,none⟩))::l) D pm ro) h K) B w0 kl F)
 (hx:ev l x=v:=by conv=>lhs;whnf) (hi:ev l i=.int kk (k:Int):=by rfl) (hk:aD (ap ai v xs) kl kl':=by exact fB) (hn:Nat.blt d n=true:=by rfl) (hn2:Nat.blt d2 n=true:=by rfl):
 R (λh=>aJ P ds (⟨⟨some d,none,.oq 1 x i⟩,[]⟩::⟨⟨some d2,none,.iE (.tmp d)⟩,[]⟩::rest) (act n l D pm ro) h K) B w0 kl F:=(afp hn rfl hn2 (λ_=>rfl) hx hi hk hz).h next
end
end
end Go.Ideal
namespace Go.Ideal
open Go.ChangeShapes Go.WideShapes Go.ChangeAt Go.RowKit
variable {P:Program}
def j3{α:Type}(P:Program)(t:aC)(E:Enc α)(G:α->Prop):Prop:=∀(w:Wd) (H:Type) (d:DataW H) (cs:ae ah),(∀i,i<w.h.next->w.z i)->iZ P w.h t cs d->∃a y,cs=E.pat a y/\(∀f∈E.fs a y,f.p w)/\G a
def lI(n:Int):Prop:= -9223372036854775808<=n/\n<9223372036854775808
def rU{α:Type}(G:α->Prop)(xs:ae α):Prop:=xs.length<9223372036854775808/\∀x∈xs,G x
variable{t:aC}
def afM(ht:P.underlying t=some (.int .i64)):j3 P t ai lI:=λw H d cs hz r=>by
 obtain⟨n,rfl,_,h⟩:=r.nO ht;refine⟨n,(),rfl,(λf hf=>by cases hf),?_⟩;simp only[Lit.wf,IntKind.min,IntKind.max,IntKind.signed,IntKind.bits,dI,zu]at h;simp at h;exact⟨tr,tr⟩
def afN(ht:P.underlying t=some .string):j3 P t aV (λ_=>True):=λw H d cs hz r=>by
 obtain⟨n,rfl,_⟩:=r.zK ht;exact⟨n,(),rfl,(λf hf=>by cases hf),trivial⟩
variable{α:Type}
def z8{e:aC}{E:Enc α}{G:α->Prop}(ht:P.underlying t=some (.slice e))(hn:P.cellsOf e=E.n)(he:j3 P e E G):j3 P t (aA E) (rU G):=λw H d cs hz r=>by
 rcases r.ow ht with⟨rfl,_⟩|⟨i,n,c,cells,els,rest,rfl,_,hnc,hl,hcl,hel⟩
 .exact⟨[],_,rfl,(λf hf=>by rw[bK.1 hf];exact .inl ⟨rfl,none,0,rfl,trivial⟩),tt,λx hx=>by cases hx⟩
 .have hmax:maxLen=9223372036854775807:=by decide
  obtain⟨xs,hx1,hx2⟩:=OG (p:=λk a=>(∃y,(cells.drop (k*E.n)).take E.n=E.pat a y/\∀f∈E.fs a y,f.p w)/\G a) n (λk hk=>by
   have hk':k<els.length:=tr
   have:=hel k els[k] (bX hk');rw[hn]at this;obtain⟨a,y,q1,q2,q3⟩:=he w H _ _ hz this;exact⟨a,⟨y,q1,q2⟩,q3⟩)
  refine⟨xs,_,rfl,λf hf=>?_,tr,λx hx=>?_⟩
  .rw[bK.1 hf];rcases hcl with h0|hcl
   .left;have:xs=[]:=jX.1 tr;exact⟨this,some ⟨i,0,some 0⟩,c,by rw[h0],Or.inl rfl⟩
   .right;refine⟨i,0,0,c,cells,⟨by rw[hx1],by rw[hx1];exact hnc.1,.inl rfl⟩,⟨hz i hcl.1,hcl.2⟩,λk x hk=>?_⟩;obtain⟨⟨y,q1,q2⟩,_⟩:=hx2 k x hk;refine⟨y,λj u hj=>?_,q2⟩;rw[<- q1,vF]at hj;split at hj
    .rw[sK]at hj;rw[fq];exact hj
    .cases hj
  .obtain⟨k,hk⟩:=jM hx;exact(hx2 k x hk).2
inductive BF(P:Program):{α:Type}->List Field->Enc α->(α->Prop)->Prop
 |nil:BF P [] UH (λ_=>True)
 |cons {α β:Type} {f:Field} {fs:List Field} {E1:Enc α} {E2:Enc β} {G1:α->Prop} {G2:β->Prop} (h:j3 P f.type E1 G1) (hn:P.cellsOf f.type=E1.n) (t:BF P fs E2 G2):BF P (f::fs) (UG E1 E2) (λx=>G1 x.1/\G2 x.2)
def BF.JM{w:Wd}{H:Type}(hz:∀i,i<w.h.next->w.z i):∀{α:Type} {fs:ae Field} {E:Enc α} {G:α->Prop},BF P fs E G->∀(o0:Nat) (cs:ae ah) (ds:ae (DataW H)),cs.length=(fs.map λf=>P.cellsOf f.type).sum->ds.length=fs.length->
 fs.map (·.offset)=sums o0 (fs.map λf=>P.cellsOf f.type)->(∀(j:Nat) f d,fs[j]? =some f->ds[j]? =some d->iZ P w.h f.type ((cs.drop (f.offset - o0)).take (P.cellsOf f.type)) d)->∃a y,cs=E.pat a y/\(∀f∈E.fs a y,f.p w)/\G a
 |_,_,_,_,.nil,o0,cs,ds,h1,h2,h3,h4=>⟨(),(),jX.1 ur,(λf hf=>by cases hf),trivial⟩
 |_,_,_,_,.cons (f:=f) (fs:=fs) (E1:=E1) (E2:=E2) h hn t,o0,cs,ds,h1,h2,h3,h4=>by
  match ds,h2 with
  |d::ds,h2=>
   simp only[iQ,List.sum_cons,sums,CG]at h1 h3;obtain⟨ho,h3⟩:=h3;have r0:=h4 0 f d rfl rfl;rw[ho,xZ,AY]at r0;obtain⟨a,y,q1,q2,q3⟩:=h w H d _ hz r0;obtain⟨b,z,u1,u2,u3⟩:=BF.JM hz t (o0+P.cellsOf f.type) (cs.drop (P.cellsOf f.type)) ds vf wj h3 (λj g e hg he=>by
    exact cN)
   refine⟨(a,b),(y,z),?_,?_,q3,u3⟩
   .show cs=E1.pat a y++E2.pat b z;rw[<- q1,<- u1,xX]
   .exact qe
def yP{fs:Array Field}{E:Enc α}{G:α->Prop}(ht:P.underlying t=some (.struct fs))(ho:fs.toList.map (·.offset)=sums 0 (fs.toList.map λf=>P.cellsOf f.type))
 (hs:P.cellsOf t=(fs.toList.map λf=>P.cellsOf f.type).sum) (h:BF P fs.toList E G):j3 P t E G:=λw H d cs hz r=>by
 obtain⟨ds,_,h1,h2,h3⟩:=r.Un ht;refine h.JM hz 0 cs ds (by rw[h1,hs]) wj ho λj f d hf hd=>?_;rw[ED];exact h3 j f d (by rw[<- AU];exact hf) hd
def j3.conv{β:Type}{E:Enc α}{E':Enc β}{G:α->Prop}{G':β->Prop}(h:j3 P t E G)(hc:∀a y,G a->∃b z,E.pat a y=E'.pat b z/\E.fs a y=E'.fs b z/\G' b):j3 P t E' G':=λw H d cs hz r=>by
 obtain⟨a,y,q1,q2,q3⟩:=h w H d cs hz r;obtain⟨b,z,e1,e2,e3⟩:=hc a y q3;exact⟨b,z,by rw[q1,e1],(λf hf=>q2 f (by rw[e2];exact hf)),e3⟩
section
variable {H:Type}
def zY.DC{α:Type}{w:Wd}{t:aC}{v:ah}{d:DataW H}{E:Enc α}{G:α->Prop}(h:zY P w t v d)(hz:∀i,i<w.h.next->w.z i)(ha:kH P t=true)(hr:j3 P t E G):∃a y,v=.agg ⟨E.pat a y⟩/\(∀f∈E.fs a y,f.p w)/\G a:=by
 exact kq
end
end Go.Ideal
namespace Go.Ideal
variable {P:Program}
def fP.OM{w:Wd}{A:OA}:∀{kl kl':ae OA} {S:ae Nat},aD A kl kl'->fP w (A::kl') S->∃S',fP w kl S'/\S.Perm S'
 |_,_,S,.here,h=>⟨S,h,.refl _⟩
 |_,_,_,.there (C:=C) (l:=l) (l':=l') s,⟨S1,S2,h1,⟨T1,T2,h2,h3,e2⟩,e⟩=>by
  subst e e2;obtain⟨S',q1,q2⟩:=fP.OM (w:=w) (A:=A) s ⟨S1,T2,h1,h3,rfl⟩;refine⟨T1++S',⟨T1,S',h2,q1,rfl⟩,?_⟩;have:(S1++(T1++T2)).Perm (T1++(S1++T2)):=by
   exact pL
  exact this.trans (q2.append_left T1)
def aD.at{α:Type}{a:α}:∀{l:ae α} {k:Nat},l[k]? =some a->aD a l (l.eraseIdx k)
 |[],k,h=>by simp at h
 |b::l,0,h=>by
  simp at h;subst h;exact .here
 |b::l,k+1,h=>.there (aD.at (l:=l) (k:=k) tE)
def UL{α:Type}(a:α):∀(l:ae α) (k:Nat),(l.set k a).eraseIdx k=l.eraseIdx k
 |[],k=>rfl
 |b::l,0=>rfl
 |b::l,k+1=>by simp[UL a l k]
def R.perm{B:ae Nat}{w0:Wd}{kl eH:ae OA}{F:ae aP}{Q:IH->Prop}(hp:∀w S,fP w kl S->∃S',fP w eH S'/\S.Perm S')(h:R Q B w0 eH F):R Q B w0 kl F:=λw s=>by
 obtain⟨S,h1,h2,h3⟩:=s.own;obtain⟨S',q1,q2⟩:=hp w S h1;exact h w ⟨s.agree,s.le,s.ig,⟨S',q1,q2.nodup h2,λi hi=>h3 i (q2.mem_iff.2 hi)⟩,s.facts⟩
section
variable {B:ae Nat} {w0:Wd} {kl kl' bD k1 k2:ae OA} {F:ae aP} {K:KO} {n:Nat} {l:qr} {D:ae Deferred} {pm:ak FrameMode} {ro:ak Nat} {Q:IH->Prop}
end
end Go.Ideal
namespace Go.Ideal
noncomputable def DD:Nat->T bO->T bO->Bool
 |0,_,_=>false
 |n+1,a,b=>match a,b with
  | .leaf,.leaf=>true
  | .node v l r,.node v' l' r'=>(match v,v' with
    |none,none=>true
    |some o,some o'=>I1 o o'
    |_,_=>false)&&(DD n l l'&&DD n r r')
  |_,_=>false
def OO:∀(n:Nat) {a b:T bO},DD n a b=true->a=b
 |0,_,_,h=>by cases h
 |n+1,a,b,h=>by
  unfold DD at h;split at h
  .rfl
  .simp only[dI]at h;obtain⟨h1,h2,h3⟩:=h;rw[OO n h2,OO n h3];split at h1
   .rfl
   .rw[TV h1]
   .cases h1
  .cases h
variable {P:Program}
def OP{X:Type}(n:Nat)(D:ae Deferred)(pm:ak FrameMode)(ro:ak Nat)(B:ae Nat)(w0:Wd)(L:X->qr)(KL:X->ae OA)(FF:X->ae aP)(inv:X->Prop)(l0:qr)(bD:ae OA)(F0:ae aP)(K:KO):KO:=λo a h=>
 match o with
 | .normal=>∃(x:X) (l:qr) (w:Wd),a=act n l D pm ro/\sub (L x++l0) l/\w.h=h/\St B w0 (KL x++bD) (FF x++F0) w/\inv x
 |o=>K o a h
section
variable {B:ae Nat} {w0:Wd} {kl kl' bD k1 k2:ae OA} {F:ae aP} {K:KO} {n:Nat} {l:qr} {D:ae Deferred} {pm:ak FrameMode} {ro:ak Nat} {Q:IH->Prop}
section
variable {X:Type} {n2:Nat} {D2:ae Deferred} {pm2:ak FrameMode} {ro2:ak Nat} {B2:ae Nat} {w2:Wd} {L:X->qr} {KL:X->ae OA} {FF:X->ae aP} {inv:X->Prop} {l0:qr} {F0:ae aP}
def afQ{a:bi}{ch:ae PanicEntry}(h:R (λh=>K (.panic ch) a h) B w0 kl F):R (λh=>OP n2 D2 pm2 ro2 B2 w2 L KL FF inv l0 bD F0 K (.panic ch) a h) B w0 kl F:=h
def JV{FX eH:ae OA}(x:X)(hi:inv x)(hl:sub (L x++l0) l:=by exact FW)
 (ha:dO (KL x) bD FX:=by exact FV)
 (hk:aO FX kl eH:=by exact mP) (hF:Sub (FF x) F:=by exact mE)
 (BD:oC F0 F:=by exact UE):
 R (λh=>OP n D pm ro B w0 L KL FF inv l0 bD F0 K .normal (act n l D pm ro) h) B w0 kl F:=λw s=>by
 refine⟨x,l,w,rfl,hl,rfl,?_,hi⟩;have s':=(s.kV hk).drop;rw[<- ha.eq]at s';exact⟨s'.agree,s'.le,s'.ig,s'.own,λf hf=>(dY.1 hf).elim (λhf=>s.facts f (hF.mem f hf)) (λhf=>s.facts f (BD.mem f hf))⟩
end
def UM{X:Type}{x y:dA}{l0:qr}{L2:X->qr}{wB:X->ae OA}{wC:X->ae aP}(ks:ae Nat)(L:X->qr)(KL:X->ae OA)(FF:X->ae aP)(inv:X->Prop)
 (hx:R (λh=>EV P x (act n l D pm ro) h (OP n D pm ro B w0 L KL FF inv l0 bD F K)) B w0 kl F)
 (hy:∀z,inv z->R (λh=>EV P y (act n (L2 z) D pm ro) h K) B w0 (wB z) (wC z))
 (h0:uN l (ks.map λk=>(k,uA)) l0:=by exact JJ)
 (hal:∀x,dO (L x) l0 (L2 x):=by exact qy)
 (hak:∀x,dO (KL x) bD (wB x):=by exact qy) (qI:∀x,dO (FF x) F (wC x):=by exact qy):
 R (λh=>EV P x (act n l D pm ro) h (zS P y K)) B w0 kl F:=λw s=>by
 refine NW (hx w s) _ ?_;intro o a h hm;cases o with
 |normal=>
  obtain⟨z,l',w',rfl,hl,rfl,s',hz⟩:=hm;have:=hy z hz;rw[<- (hak z).eq,<- (qI z).eq,<- (hal z).eq]at this;exact TT (N8 hl) (this w' s')
 |exit j=>exact hm
 |ret=>exact hm
 |panic ch=>exact hm
end
end Go.Ideal
namespace Go.Ideal
variable {P:Program}
section
variable {B:ae Nat} {w0:Wd} {kl kl' bD k1 k2:ae OA} {F:ae aP} {K:KO} {n:Nat} {l:qr} {D:ae Deferred} {pm:ak FrameMode} {ro:ak Nat} {Q:IH->Prop} {ds:ae Tmp} {rest:ae bY} {d:Nat} {g:ak (Tmp×Bool)}
end
