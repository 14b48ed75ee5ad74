/- Part. -/
import Derived.Test.YtgimfpcgbmpkhaaGreatIdealIT
set_option linter.all false
namespace Go.Ideal
variable{p:Prop}
def kV(h:p:=by repeat (first|exact Sub.nil|(apply Sub.cons;(focus ((repeat (first|with_reducible exact eX .. |with_reducible apply fP));first|done|fail)))|exact pz.sub (by repeat (first|with_reducible exact pz.here|with_reducible apply pz.cons|with_reducible apply pz.app)))):p:=h
def lH(h:p:=by repeat (first|exact aJ.nil|(apply aJ.cons;(focus (repeat (first|with_reducible exact aD.here|with_reducible apply aD.there|with_reducible apply aD.app))))|with_reducible exact aJ.all _|with_reducible exact aJ.self _ _|with_reducible apply aJ.there)):p:=h
def dG(h:p:=by repeat (first|with_reducible exact aD.here|with_reducible apply aD.there|with_reducible apply aD.app)):p:=h
def zB(h:p:=by repeat (first|exact RS.nil|(apply RS.tmp;(conv=>lhs;whnf))|(apply RS.cell1;(focus exact rfl);(focus (repeat (first|with_reducible exact aD.here|with_reducible apply aD.there|with_reducible apply aD.app)));(conv=>lhs;whnf))|(apply RS.pX;(focus exact rfl);(focus (repeat (first|with_reducible exact aD.here|with_reducible apply aD.there|with_reducible apply aD.app)));(conv=>lhs;whnf)))):p:=h
def iN(h:p:=by(repeat (first|with_reducible exact eX .. |with_reducible apply fP));first|done|fail):p:=h
variable {P:Program}
section
variable {B:ae Nat} {w0:Wd} {kl:ae OA} {F:ae aI} {K:KO} {ds:ae Tmp} {rest:ae bV} {n:Nat} {l:qr} {D:ae Deferred} {pm:az FrameMode} {ro:az Nat} {d:Nat} {g:az (Tmp×Bool)}
variable{x i:aB}{v:ah}{k:Nat}{kk:IntKind}
def ai9{xs:ae Int}(hn:Nat.blt d n=true)(hg:bJ l g=true)(hx:ev l x=v)(hi:ev l i=.int kk (k:Int))(hf:ay aj v xs∈F)(h1:k<xs.length):
 dI (R (λh=>aO P ds (⟨⟨some d,g,.jw 1 x i⟩,[]⟩::rest) (act n l D pm ro) h K) B w0 kl F)
  (∀b o z,xs[k]? =some z->R (λh=>aO P ds rest (act n ((d,.pointer (some ⟨b,o,none⟩))::l) D pm ro) h K) B w0 kl (aX b o [.int .i64 z]::F)):=
 ⟨λr=>(Y1 hn hg hx hi hf s6 s6).h (by grind)⟩
def aja{xs:ae Bool}(hn:Nat.blt d n=true)(hg:bJ l g=true)(hx:ev l x=v)(hi:ev l i=.int kk (k:Int))(hf:ay lG v xs∈F)(h1:k<xs.length):
 dI (R (λh=>aO P ds (⟨⟨some d,g,.jw 1 x i⟩,[]⟩::rest) (act n l D pm ro) h K) B w0 kl F)
  (∀b o z,xs[k]? =some z->R (λh=>aO P ds rest (act n ((d,.pointer (some ⟨b,o,none⟩))::l) D pm ro) h K) B w0 kl (aX b o [.bool z]::F)):=
 ⟨λr=>(Y2 hn hg hx hi hf s6 s6).h (by grind)⟩
end
inductive Fill(ρ:Operand->Value):List Value->List (Nat×Nat×Operand)->List Value->Prop
 |nil {cs:List Value}:Fill ρ cs [] cs
 |cons {cs vs cs' r:List Value} {off size:Nat} {x:Operand} {parts:List (Nat×Nat×Operand)} {v:Value} (h0:ρ x=v) (h1:cellsOf v=some vs) (h2:Nat.beq (jv vs) size=true) (h3:jV cs off vs=some cs') (t:Fill ρ cs' parts r):Fill ρ cs ((off,size,x)::parts) r
def Fill.eq{ρ:aB->ah}:∀{zero:ae ah} {parts:ae (Nat×Nat×aB)} {cs:ae ah},Fill ρ zero parts cs->vK ρ zero parts=some cs
 |_,_,_,.nil=>rfl
 |cs0,_,_,.cons (off:=off) (size:=size) (x:=x) (parts:=parts) h0 h1 h2 h3 t=>by
  have ih:=t.eq;show(match cellsOf (ρ x)with
   |none=>none
   |some vs=>cond (Nat.beq (jv vs) size) (match jV cs0 off vs with
    |some cs=>vK ρ cs parts
    |none=>none) none)=_
  grind
variable{B:ae Nat}{w0:Wd}{kl:ae OA}{F:ae aI}{K:KO}{ds:ae Tmp}{rest:ae bV}{n d:Nat}{l:qr}{D:ae Deferred}{pm:az FrameMode}{ro:az Nat}{g:az (Tmp×Bool)}
def ajb
 {t:aM} {len:Nat} {zero cs:ae ah} {parts:ae (Nat×Nat×aB)} (hn:Nat.blt d n=true) (hg:bJ l g=true) (hx:Fill (ev l) zero parts cs):
 dI (R (λh=>aO P ds (⟨⟨some d,g,.Ah t len zero parts⟩,[]⟩::rest) (act n l D pm ro) h K) B w0 kl F)
 (∀b,R (λh=>aO P ds rest (act n ((d,.slice (some ⟨b,0,some 0⟩) len len)::l) D pm ro) h K) B w0 (pt b (.cells cs)::kl) F):=aiO hn hg hx.eq
def ajc
 {zero cs:ae ah} {parts:ae (Nat×Nat×aB)} (hn:Nat.blt d n=true) (hg:bJ l g=true) (hx:Fill (ev l) zero parts cs):
 dI (R (λh=>aO P ds (⟨⟨some d,g,.build zero parts⟩,[]⟩::rest) (act n l D pm ro) h K) B w0 kl F) (R (λh=>aO P ds rest (act n ((d,.agg ⟨cs⟩)::l) D pm ro) h K) B w0 kl F):=dx hn hg (aim hx.eq)
variable{α:Type}
def ajd{E:Enc α}{v:ah}{xs:ae α}{Q:IH->Prop}(hf:ay E v xs∈F)(h:∀a c,v=.slice a xs.length c->R Q B w0 kl F):R Q B w0 kl F:=λw s=>by
 obtain⟨a,c,e⟩:=Y0 (s.facts _ hf);exact h a c e w s
section
variable {B:ae Nat} {w0:Wd} {kl:ae OA} {F:ae aI} {K:KO} {ds:ae Tmp} {rest:ae bV} {n:Nat} {l:qr} {D:ae Deferred} {pm:az FrameMode} {ro:az Nat} {t1 t2:Nat}
def Gx{e:Bool}(h1:e=false->R (λh=>aO P ds rest (act n ((t1,.bool false)::(t2,.bool false)::l) D pm ro) h K) B w0 kl F)(h2:e=true->R (λh=>aO P ds rest (act n ((t1,.bool true)::(t2,.bool true)::l) D pm ro) h K) B w0 kl F):
 R (λh=>aO P ds rest (act n ((t1,.bool e)::(t2,.bool e)::l) D pm ro) h K) B w0 kl F:=by
 cases e
 .exact h1 rfl
 .exact h2 rfl
variable{p:Prop}
def NY{_:Decidable p}(h1:¬p->R (λh=>aO P ds rest (act n ((t1,.bool false)::(t2,.bool false)::l) D pm ro) h K) B w0 kl F)(h2:p->R (λh=>aO P ds rest (act n ((t1,.bool true)::(t2,.bool true)::l) D pm ro) h K) B w0 kl F):
 R (λh=>aO P ds rest (act n ((t1,.bool (decide p))::(t2,.bool (decide p))::l) D pm ro) h K) B w0 kl F:=
 Gx (by grind) (by grind)
def NZ{_:Decidable p}(h1:p->R (λh=>aO P ds rest (act n ((t1,.bool false)::(t2,.bool false)::l) D pm ro) h K) B w0 kl F)(h2:¬p->R (λh=>aO P ds rest (act n ((t1,.bool true)::(t2,.bool true)::l) D pm ro) h K) B w0 kl F):
 R (λh=>aO P ds rest (act n ((t1,.bool (!decide p))::(t2,.bool (!decide p))::l) D pm ro) h K) B w0 kl F:=
 Gx (by grind) (by grind)
end
section
variable {B:ae Nat} {w0:Wd} {kl kl':ae OA} {F:ae aI} {K:KO} {ds:ae Tmp} {rest:ae bV} {n:Nat} {l:qr} {D:ae Deferred} {pm:az FrameMode} {ro:az Nat} {d:Nat} {g:az (Tmp×Bool)}
variable{x:aB}{v:ah}{cs:ae ah}
def aje{t:aM}(hn:Nat.blt d n=true)(hg:bJ l g=true)(hv:ev l x=v)(hx:cellsOf v=some cs):dI (R (λh=>aO P ds (⟨⟨some d,g,.box x t⟩,[]⟩::rest) (act n l D pm ro) h K) B w0 kl F)
 (∀b,R (λh=>aO P ds rest (act n ((d,.pointer (some ⟨b,0,none⟩))::l) D pm ro) h K) B w0 (pt b (.cells cs)::kl) F):=aiN hn hg (by rw[hv];exact hx)
def ajf{y:aB}{b o m:Nat}{vs c:ae ah}(hg:bJ l g=true)(hx:ev l x=.pointer (some ⟨b,o,none⟩))(hw:ev l y=v)(hy:cellsOf v=some vs)(hm:Nat.beq (jv vs) m=true)
 (hk:aD (pt b (.cells cs)) kl kl') (hv:jV cs o vs=some c):
 dI (R (λh=>aO P ds (⟨⟨none,g,.store m x y⟩,[]⟩::rest) (act n l D pm ro) h K) B w0 kl F) (R (λh=>aO P ds rest (act n l D pm ro) h K) B w0 (pt b (.cells c)::kl') F):=SG hg hx (by rw[hw];exact hy) hm hk hv
end
def ajg
 {fn:Fn} {first captured:ae aB} {a b:ae ah} (hn:Nat.blt d n=true) (hg:bJ l g=true) (h1:EvL (ev l) first a) (h2:EvL (ev l) captured b):
 dI (R (λh=>aO P ds (⟨⟨some d,g,.D5 fn first captured⟩,[]⟩::rest) (act n l D pm ro) h K) B w0 kl F) (R (λh=>aO P ds rest (act n ((d,.func fn ⟨a⟩ ⟨b⟩)::l) D pm ro) h K) B w0 kl F):=dx hn hg (ain h1 h2)
def AP(h:p:=by
 repeat (first
  |((with_reducible apply dI.trans);first
   |with_reducible exact aio
   |with_reducible exact aip
   |with_reducible exact aiq
   |with_reducible exact air
   |with_reducible exact ais
   |with_reducible exact ait
   |with_reducible exact aiu
   |with_reducible exact aiv
   |with_reducible exact aiw
   |with_reducible exact aix
   |with_reducible exact aiy
   |with_reducible exact aiz
   |with_reducible exact aiA
   |with_reducible exact aiB
   |with_reducible exact aiC
   |with_reducible exact aiF
   |with_reducible exact aiG
   |with_reducible exact aiH
   |((with_reducible apply aiD);exact rfl)
   |((with_reducible apply aiE);exact rfl)
   |((with_reducible apply aiI);exact rfl)
   |((with_reducible apply aiJ);exact rfl)
   |((with_reducible apply aiK);exact rfl;exact rfl)
   |((with_reducible apply ai9);exact rfl;exact rfl;(focus ((conv=>lhs;whnf);(first|done|fail)));exact rfl;exact iN;(focus ((omega);(first|done|fail))))
   |((with_reducible apply aja);exact rfl;exact rfl;(focus ((conv=>lhs;whnf);(first|done|fail)));exact rfl;exact iN;(focus ((omega);(first|done|fail))))
   |((with_reducible apply Y1);exact rfl;exact rfl;(focus ((conv=>lhs;whnf);(first|done|fail)));exact rfl;exact iN;(focus ((omega);(first|done|fail)));(focus ((omega);(first|done|fail))))
   |((with_reducible apply Y2);exact rfl;exact rfl;(focus ((conv=>lhs;whnf);(first|done|fail)));exact rfl;exact iN;(focus ((omega);(first|done|fail)));(focus ((omega);(first|done|fail))))
   |((with_reducible apply dx);exact rfl;exact rfl;(focus ((first|((with_reducible apply Nl);(focus ((conv=>lhs;whnf);(first|done|fail))))|((with_reducible apply Nn);(focus ((conv=>lhs;whnf);(first|done|fail))))|((with_reducible apply Ns);exact rfl)|((with_reducible apply Nu);exact rfl;exact rfl)|((with_reducible apply Nv);exact rfl;exact rfl)|((with_reducible apply Nw);exact rfl;exact rfl)|((with_reducible apply Ny);exact rfl;exact rfl)|((with_reducible apply Nz);exact rfl;exact rfl)|((with_reducible apply NA);exact rfl;exact rfl)|((with_reducible apply Nr);exact rfl)|((with_reducible apply Np);exact rfl;(focus ((conv=>lhs;whnf);(first|done|fail))))|((with_reducible apply Nq);exact rfl;(focus ((conv=>lhs;whnf);(first|done|fail))))|((with_reducible apply NC);exact rfl;(focus ((conv=>lhs;whnf);(first|done|fail))))|((with_reducible apply ND);exact rfl)|((with_reducible apply NE);exact rfl;(focus ((conv=>lhs;whnf);(first|done|fail))))|((with_reducible apply NF);exact rfl;(focus ((conv=>lhs;whnf);(first|done|fail))))|((with_reducible apply NG);(focus ((conv=>lhs;whnf);(first|done|fail))))|((with_reducible apply NH);exact rfl)|((with_reducible apply NI);exact rfl)|((with_reducible apply NJ);exact rfl)|with_reducible exact Nt|((with_reducible apply NK);exact rfl;exact rfl;exact rfl)|((with_reducible apply NW);exact rfl;exact rfl;(focus ((omega);(first|done|fail))))|((with_reducible apply JP);exact rfl;exact rfl;(focus ((omega);(first|done|fail)));(focus ((omega);(first|done|fail))))|((with_reducible apply NL);exact rfl;exact rfl;(focus ((omega);(first|done|fail)));(focus ((omega);(first|done|fail))))|((with_reducible apply Gu);exact rfl;exact rfl;(focus ((omega);(first|done|fail)));(focus ((omega);(first|done|fail))))|((with_reducible apply NB);exact rfl;exact rfl;(focus ((omega);(first|done|fail)));(focus ((omega);(first|done|fail))))|((with_reducible apply NP);exact rfl;exact rfl;(focus ((first|assumption|kernel_rfl);(first|done|fail))))|((with_reducible apply NQ);exact rfl;exact rfl;(focus ((first|assumption|kernel_rfl);(first|done|fail))))|((with_reducible apply NR);exact rfl;exact rfl)|((with_reducible apply NS);exact rfl;exact rfl)|((with_reducible apply NT);exact rfl;exact rfl;(focus ((omega);(first|done|fail)));(focus ((omega);(first|done|fail)))));(first|done|fail))))
   |((with_reducible apply ajg);exact rfl;exact rfl;(focus (repeat (first|with_reducible exact EvL.nil|((with_reducible apply EvL.cons);(conv=>lhs;whnf)))));(focus (repeat (first|with_reducible exact EvL.nil|((with_reducible apply EvL.cons);(conv=>lhs;whnf))))))
   |((with_reducible apply ajb);exact rfl;exact rfl;(focus (repeat (first|with_reducible exact Fill.nil|((with_reducible apply Fill.cons);(conv=>lhs;whnf);(conv=>lhs;whnf);exact rfl;(conv=>lhs;whnf))))))
   |((with_reducible apply ajc);exact rfl;exact rfl;(focus (repeat (first|with_reducible exact Fill.nil|((with_reducible apply Fill.cons);(conv=>lhs;whnf);(conv=>lhs;whnf);exact rfl;(conv=>lhs;whnf))))))
   |((with_reducible apply aje);exact rfl;exact rfl;(focus ((conv=>lhs;whnf);(first|done|fail)));(focus ((conv=>lhs;whnf);(first|done|fail))))
   |((with_reducible apply aiM);exact rfl;exact rfl)
   |((with_reducible apply aiQ);exact rfl;exact rfl;exact rfl;exact dG;(focus ((conv=>lhs;whnf);(first|done|fail))))
   |((with_reducible apply SE);exact rfl;exact rfl;exact rfl;exact dG;(focus ((conv=>lhs;whnf);(first|done|fail))))
   |((with_reducible apply aiR);exact rfl;exact rfl;exact rfl;exact iN;(focus ((conv=>lhs;whnf);(first|done|fail))))
   |((with_reducible apply JQ);exact rfl;exact rfl;exact rfl;exact iN;(focus ((conv=>lhs;whnf);(first|done|fail))))
   |((with_reducible apply aiS);exact rfl;exact rfl;exact rfl;exact iN;(focus ((conv=>lhs;whnf);(first|done|fail))))
   |((with_reducible apply SF);exact rfl;exact rfl;exact rfl;exact iN;(focus ((conv=>lhs;whnf);(first|done|fail))))
   |((with_reducible apply ajf);exact rfl;exact rfl;(focus ((conv=>lhs;whnf);(first|done|fail)));(focus ((conv=>lhs;whnf);(first|done|fail)));exact rfl;exact dG;(focus ((conv=>lhs;whnf);(first|done|fail))))
   |((with_reducible apply aiW);exact rfl;exact rfl;(focus ((conv=>lhs;whnf);(first|done|fail)));exact iN)
   |((with_reducible apply aiX);exact rfl;exact rfl;(focus ((conv=>lhs;whnf);(first|done|fail)));exact dG)
   |((with_reducible apply ai5 (re:=_::_));exact rfl;exact rfl;(focus ((first|((with_reducible apply Nl);(focus ((conv=>lhs;whnf);(first|done|fail))))|((with_reducible apply Nn);(focus ((conv=>lhs;whnf);(first|done|fail))))|((with_reducible apply Ns);exact rfl)|((with_reducible apply Nu);exact rfl;exact rfl)|((with_reducible apply Nv);exact rfl;exact rfl)|((with_reducible apply Nw);exact rfl;exact rfl)|((with_reducible apply Ny);exact rfl;exact rfl)|((with_reducible apply Nz);exact rfl;exact rfl)|((with_reducible apply NA);exact rfl;exact rfl)|((with_reducible apply Nr);exact rfl)|((with_reducible apply Np);exact rfl;(focus ((conv=>lhs;whnf);(first|done|fail))))|((with_reducible apply Nq);exact rfl;(focus ((conv=>lhs;whnf);(first|done|fail))))|((with_reducible apply NC);exact rfl;(focus ((conv=>lhs;whnf);(first|done|fail))))|((with_reducible apply ND);exact rfl)|((with_reducible apply NE);exact rfl;(focus ((conv=>lhs;whnf);(first|done|fail))))|((with_reducible apply NF);exact rfl;(focus ((conv=>lhs;whnf);(first|done|fail))))|((with_reducible apply NG);(focus ((conv=>lhs;whnf);(first|done|fail))))|((with_reducible apply NH);exact rfl)|((with_reducible apply NI);exact rfl)|((with_reducible apply NJ);exact rfl)|with_reducible exact Nt|((with_reducible apply NK);exact rfl;exact rfl;exact rfl)|((with_reducible apply NW);exact rfl;exact rfl;(focus ((omega);(first|done|fail))))|((with_reducible apply JP);exact rfl;exact rfl;(focus ((omega);(first|done|fail)));(focus ((omega);(first|done|fail))))|((with_reducible apply NL);exact rfl;exact rfl;(focus ((omega);(first|done|fail)));(focus ((omega);(first|done|fail))))|((with_reducible apply Gu);exact rfl;exact rfl;(focus ((omega);(first|done|fail)));(focus ((omega);(first|done|fail))))|((with_reducible apply NB);exact rfl;exact rfl;(focus ((omega);(first|done|fail)));(focus ((omega);(first|done|fail))))|((with_reducible apply NP);exact rfl;exact rfl;(focus ((first|assumption|kernel_rfl);(first|done|fail))))|((with_reducible apply NQ);exact rfl;exact rfl;(focus ((first|assumption|kernel_rfl);(first|done|fail))))|((with_reducible apply NR);exact rfl;exact rfl)|((with_reducible apply NS);exact rfl;exact rfl)|((with_reducible apply NT);exact rfl;exact rfl;(focus ((omega);(first|done|fail)));(focus ((omega);(first|done|fail)))));(first|done|fail)));(focus ((repeat (first|exact Gv|refine Gw rfl dG tf rfl ?_|refine JS rfl iN tf rfl ?_|refine JU rfl iN tf rfl ?_|refine JV rfl dG tf rfl ?_|refine JW rfl iN tf rfl ?_|refine JX rfl iN tf rfl ?_));(first|done|fail))))
   |((with_reducible apply ai4 (re:=_::_));exact rfl;exact rfl;(focus ((conv=>lhs;whnf);(first|done|fail)));(focus ((conv=>lhs;whnf);(first|done|fail)));exact rfl;exact dG;(focus ((conv=>lhs;whnf);(first|done|fail)));(focus ((repeat (first|exact Gv|refine Gw rfl dG tf rfl ?_|refine JS rfl iN tf rfl ?_|refine JU rfl iN tf rfl ?_|refine JV rfl dG tf rfl ?_|refine JW rfl iN tf rfl ?_|refine JX rfl iN tf rfl ?_));(first|done|fail))))
   |fail)
  |((with_reducible apply dI.all);intro _)
  |with_reducible apply dI.imp)
 with_reducible exact dI.refl _):p:=h
def go{G G':Prop}(x:G')(r:dI G G':=by exact AP):G:=r.h x
def qY{c:dD}{a:bE}(r:R (λh=>EV P c a h (Cu P (.loop c) K)) B w0 kl F):R (λh=>EV P (.loop c) a h K) B w0 kl F:=λw s=>
 .loop _ (r w s) (λ_ _ hm=>hm) (λo a' h' hm hn=>by
  exact mS)
def pz.sub{F0:ae α}:∀{F:ae α},pz F0 F->Sub F0 F:=λ{F} h=>by
 have:∀k:ae α,(∀x∈k,x∈F)->Sub k F:=by
  intro k;induction k with
  |nil=>intro _;exact .nil
  |cons a k ih=>intro hk;exact .cons (by grind) (ih (by grind))
 exact this F0 h.mem
inductive dz{α:Type}:List α->List α->List α->Prop
 |nil {l:List α}:dz [] l l
 |cons {a:α} {k l m:List α} (h:dz k l m):dz (a::k) l (a::m)
 |self {k:List α}:dz k [] k
 |app {k l:List α}:dz k l (k++l)
def dz.eq:∀{k l m:ae α},dz k l m->k++l=m
 |_,_,_,.nil=>rfl
 |_,_,_,.self=>jo _
 |_,_,_,.app=>rfl
 |_,_,_,.cons h=>by rw[bQ,h.eq]
def Y9(h:p:=by intro _ _;repeat (first|exact Gv|refine Gw rfl dG tf rfl ?_|refine JS rfl iN tf rfl ?_|refine JU rfl iN tf rfl ?_|refine JV rfl dG tf rfl ?_|refine JW rfl iN tf rfl ?_|refine JX rfl iN tf rfl ?_|refine Y7 CN rfl ?_)):p:=h
def qb(h:p:=by intro y;repeat (first|exact dz.nil|apply dz.cons|exact dz.self|exact dz.app)):p:=h
def JY(h:p:=by repeat (first|exact vV.nil|(apply vV.drop;exact rfl)|(apply vV.keep;exact rfl))):p:=h
def Gy(h:p:=by repeat (first|exact dz.nil|apply dz.cons|exact dz.self|exact dz.app)):p:=h
def Ew(h:p:=by repeat (first|exact trivial|refine⟨rfl,?_⟩)):p:=h
def N7(h:p:=by dsimp only[uL,Nat.reduceAdd,List.append_nil,List.cons_append,List.nil_append]):p:=h
def Za(h:p:=by repeat (first|with_reducible exact EvL.nil|((with_reducible apply EvL.cons);(conv=>lhs;whnf)))):p:=h
def N8(h:p:=by conv=>lhs;(reduce;(try simp only[Int.reduceOfNat,Int.reduceNegSucc]))):p:=h
def Zb(h:p:=by intro z y;repeat (first|exact dz.nil|apply dz.cons|exact dz.self|exact dz.app)):p:=h
def Ex(h:p:=by first|exact .inl rfl|exact .inr rfl):p:=h
def SN(h:p:=by repeat (first|exact pz.here|apply pz.cons|apply pz.app)):p:=h
section
variable {B:ae Nat} {w0:Wd} {kl kl' bA:ae OA} {F:ae aI} {K:KO} {ds:ae Tmp} {rest:ae bV} {n:Nat} {l:qr} {D:ae Deferred} {pm:az FrameMode} {ro:az Nat} {d:Nat} {g:az (Tmp×Bool)}
variable{Y:Type}{vs:ae ah}
def fH{f:aB}{xs:ae aB}{re:ae jh}{fn:Fn}{first captured as:ae ah}{k1:ae OA}{F1:ae aI}{val:Y->ah}{k1':Y->ae OA}{fs:Y->ae aI}{pr:Y->Prop}{dS:Y->ae OA}{F2:Y->ae aI}
 (hc:aY P fn as captured k1 F1 val k1' fs pr) (hn:Nat.blt d n=true:=by rfl) (hg:bJ l g=true:=by rfl) (hf:ev l f=.func fn ⟨first⟩ ⟨captured⟩:=by rfl) (hx:EvL (ev l) xs vs:=by exact Za) (ha:first++vs=as:=by rfl)
 (hk:aJ k1 kl bA:=by exact lH) (hF:Sub F1 F:=by exact kV)
 (hak:∀y,dz (k1' y) bA (dS y):=by exact qb) (qZ:∀y,dz (fs y) F (F2 y):=by exact qb)
 (hs:∀y,pr y->Same P re (ev ((d,val y)::l)) ((d,val y)::l) B w0 (dS y) (F2 y):=by exact Y9)
 (next:∀y,pr y->R (λh=>aO P ds rest (act n ((d,val y)::l) D pm ro) h K) B w0 (dS y) (F2 y)):
 R (λh=>aO P ds (⟨⟨some d,g,.call f xs⟩,re⟩::rest) (act n l D pm ro) h K) B w0 kl F:=
 ai6 hc hn hg hf hx ha hk hF (λy hy=>by rw[(hak y).eq,(qZ y).eq];exact hs y hy) (λy hy=>by rw[(hak y).eq,(qZ y).eq];exact next y hy)
abbrev dO(P:Program)(f:gy)(args:ae ah)(F:ae aI)(v:ah):Prop:=aY P (.func f) args [] [] F (λ_:Unit=>v) (λ_=>[]) (λ_=>[]) (λ_=>True)
variable{l0:qr}{args cap:ae ah}{c:dD}{m:Nat}
def l7{f:gy}{kl:ae OA}{F:ae aI}{val:Y->ah}{kl':Y->ae OA}{fs:Y->ae aI}{pr:Y->Prop}(cf:iJ)(hF:(vN P uB uC).F f=some cf)
 (hb:∀B w0,R (λh=>EV P c (act m l0 [] none none) h (zy cf (Left B w0 val kl' fs pr))) B w0 kl F)
 (h1:cf.body=c:=by exact N8) (h2:uz cf.ntmps (jv (args++cap))=m:=by conv=>lhs;whnf) (h3:uL 0 (args++cap) []=l0:=by exact N7):aY P (.func f) args cap kl F val kl' fs pr:=
 ai2 cf hF (by grind)
def gB{kl:ae OA}{F:ae aI}{val:Y->ah}{kl':Y->ae OA}{fs:Y->ae aI}{pr:Y->Prop}(f:gy)(hb:∀B w0,R (λh=>EV P c (act m l0 [] none none) h (zy (qL P f) (Left B w0 val kl' fs pr))) B w0 kl F)(h:(ng P f).isSome=true:=by kernel_rfl)(h1:(qL P f).body=c:=by exact N8)(h2:uz (qL P f).ntmps (jv (args++cap))=m:=by conv=>lhs;whnf)(h3:uL 0 (args++cap) []=l0:=by exact N7):aY P (.func f) args cap kl F val kl' fs pr:=l7 _ (pY f h) hb h1 h2 h3
def Ey{α:Type}(E:Enc α){x i:aB}{v:ah}{xs:ae α}{size:Nat}{k:Nat}{kk:IntKind}{F2:α->E.Y->ae aI}(hn:Nat.blt d n=true:=by rfl)(hg:bJ l g=true:=by rfl)(hx:ev l x=v:=by conv=>lhs;whnf)(hi:ev l i=.int kk (k:Int):=by rfl)
 (hf:ay E v xs∈F:=by exact iN) (hs:E.n=size:=by rfl) (h1:k<xs.length:=by omega)
 (ha:∀z y,dz (E.fs z y) F (F2 z y):=by exact Zb)
 (next:∀b o z y,xs[k]? =some z->R (λh=>aO P ds rest (act n ((d,.pointer (some ⟨b,o,none⟩))::l) D pm ro) h K) B w0 kl (aX b o (E.pat z y)::F2 z y)):
 R (λh=>aO P ds (⟨⟨some d,g,.jw size x i⟩,[]⟩::rest) (act n l D pm ro) h K) B w0 kl F:=
 (SI hn hg hx hi hf hs s6 s6).h λb o z y hz=>by rw[(ha z y).eq];exact next b o z y xa
def ou{o:Out}{cf:iJ}{val:Y->ah}{k1:Y->ae OA}{fs:Y->ae aI}{pr:Y->Prop}(y:Y)
 (hr:RS l kl cf.results vs:=by exact zB) (hv:qX vs=val y:=by rfl) (hp:pr y)
 (hk:aJ (k1 y) kl bA:=by exact lH) (hF:Sub (fs y) F:=by exact kV)
 (ho:o=.normal\/o=.ret:=by exact Ex):R (λh=>zy cf (Left B w0 val k1 fs pr) o (act n l [] none ro) h) B w0 kl F:=
 Y8 y hr hv hp hk hF ho
def mI{A:OA}{fs F2:ae aI}{Q:IH->Prop}(hA:qV A fs)(hk:aD A kl kl':=by exact dG)(ha:dz fs F F2:=by exact Gy)(h:R Q B w0 kl' F2):R Q B w0 kl F:=
 aiY hA hk (by rw[ha.eq];exact h)
variable{X:Type}
def dL{c:dD}{L2:X->qr}{uM:X->ae OA}{uN:X->ae aI}(m:X->Nat)(L:X->qr)(KL:X->ae OA)(FF:X->ae aI)(inv:X->Prop)(x0:X)(hi:inv x0)
 (h0:vV l (L x0) l0:=by exact JY) (hl:sub (L x0++l0) l:=by exact Ew)
 (hk:aJ (KL x0) kl bA:=by exact lH) (hF:Sub (FF x0) F:=by exact kV)
 (hak:∀x,dz (KL x) bA (uM x):=by exact qb) (qZ:∀x,dz (FF x) F (uN x):=by exact qb)
 (hal:∀x,dz (L x) l0 (L2 x):=by exact qb)
 (body:∀x,inv x->R (λh=>EV P c (act n (L2 x) D pm ro) h (vT (LI n D pm ro B w0 m L KL FF inv l0 bA F) (m x) K)) B w0 (uM x) (uN x)):
 R (λh=>EV P (.loop c) (act n l D pm ro) h K) B w0 kl F:=
 ai7 m L KL FF inv x0 hi l0 hl hk hF λx hx=>by rw[(hak x).eq,(qZ x).eq,(hal x).eq];exact body x hx
def aW{m:X->Nat}{L:X->qr}{KL:X->ae OA}{FF:X->ae aI}{inv:X->Prop}{CF dS:ae OA}{F0:ae aI}{m0:Nat}(x:X)(hm:m x<m0)(hi:inv x)
 (hl:sub (L x++l0) l:=by exact Ew) (ha:dz (KL x) bA CF:=by exact Gy)
 (hk:aJ CF kl dS:=by exact lH) (hF:Sub (FF x) F:=by exact kV)
 (yx:pz F0 F:=by exact SN):
 R (λh=>vT (LI n D pm ro B w0 m L KL FF inv l0 bA F0) m0 K .normal (act n l D pm ro) h) B w0 kl F:=
 ai8 x hm hi hl (by rw[ha.eq];exact hk) hF yx
end
end Go.Ideal
namespace Go.Ideal
class CG (e:Bool) (f t:outParam Prop):Prop where
 no:e=false->f
 yes:e=true->t
instance (priority:=low) auP {e:Bool}:CG e (e=false) (e=true):=⟨id,id⟩
instance auQ {p:Prop} {_:Decidable p}:CG (decide p) (¬p) p:=⟨wS,jI⟩
instance auR {p:Prop} {_:Decidable p}:CG (!decide p) p (¬p):=⟨λe=>by simpa using e,λe=>by simpa using e⟩
section
variable {P:Program}
variable {B:ae Nat} {w0:Wd} {kl:ae OA} {F:ae aI} {K:KO} {ds:ae Tmp} {rest:ae bV} {n:Nat} {l:qr} {D:ae Deferred} {pm:az FrameMode} {ro:az Nat} {t1 t2:Nat}
def gG{e:Bool}{f t:Prop}[CG e f t](h1:f->R (λh=>aO P ds rest (act n ((t1,.bool false)::(t2,.bool false)::l) D pm ro) h K) B w0 kl F)(h2:t->R (λh=>aO P ds rest (act n ((t1,.bool true)::(t2,.bool true)::l) D pm ro) h K) B w0 kl F):
 R (λh=>aO P ds rest (act n ((t1,.bool e)::(t2,.bool e)::l) D pm ro) h K) B w0 kl F:=
 Gx (λx=>h1 (CG.no x)) (λx=>h2 (CG.yes x))
end
section
instance auS {n:Nat}:OfNat aB n:=⟨.tmp n⟩
abbrev kT:aB:=.const (.bool true)
abbrev vS:ah:=.slice none 0 0
abbrev vE:ah:=.string ⟨⟨[]⟩⟩
abbrev kC(f:Nat)(l:ae aB):aR:=.call (.func f) l
abbrev kS(n:Nat)(e:aR):bV:=⟨⟨some n,none,e⟩,[]⟩
abbrev kH(n c:Nat)(e:aR):bV:=⟨⟨some n,some ⟨c,false⟩,e⟩,[]⟩
abbrev kN(e:aR):bV:=⟨⟨none,none,e⟩,[]⟩
abbrev kM(n:Nat)(x:aB):bV:=kS n (.mv x)
abbrev kO(l:ae bV):dD:=.ops (l.filterMap λx=>x.s.dst) l
end
variable {P:Program}
section
variable {B:ae Nat} {w0:Wd} {kl kl' bA:ae OA} {F:ae aI} {K:KO} {ds:ae Tmp} {rest:ae bV} {n:Nat} {l:qr} {D:ae Deferred} {pm:az FrameMode} {ro:az Nat} {d:Nat} {g:az (Tmp×Bool)}
variable{G:Prop}
def aK{c:aB}{x y:dD}{p:Prop}{ip:Decidable p}(h1:p->R (λh=>EV P x (act n l D pm ro) h K) B w0 kl F)(h2:¬p->R (λh=>EV P y (act n l D pm ro) h K) B w0 kl F)
 (r:dI G (R (λh=>EV P (.cond c x y) (act n l D pm ro) h K) B w0 kl F):=by exact AP) (hc:ev l c=.bool (decide p):=by exact rfl):G:=r.h (rU hc h1 h2)
variable{o:Out}{cf:iJ}{vs:ae ah}{val:Unit->ah}{k1:Unit->ae OA}{fs:Unit->ae aI}{pr:Unit->Prop}
def aZ(hv:qX vs=val ())(r:dI G (R (λh=>zy cf (Left B w0 val k1 fs pr) o (act n l [] none ro) h) B w0 kl F):=by exact AP)(hr:RS l kl cf.results vs:=by exact zB)(hp:pr ():=by exact trivial)(hk:aJ (k1 ()) kl bA:=by exact lH)(hF:Sub (fs ()) F:=by exact kV)(ho:o=.normal\/o=.ret:=by exact Ex):G:=r.h (ou () (hr:=hr) (hv:=hv) (hp:=hp) (hk:=hk) (hF:=hF) (ho:=ho))
def dH(r:dI G (R (λh=>zy cf (Left B w0 val k1 fs pr) o (act n l [] none ro) h) B w0 kl F):=by exact AP)(hr:RS l kl cf.results vs:=by exact zB)(hv:qX vs=val ():=by exact rfl)(hp:pr ():=by exact trivial)(hk:aJ (k1 ()) kl bA:=by exact lH)(hF:Sub (fs ()) F:=by exact kV)(ho:o=.normal\/o=.ret:=by exact Ex):G:=r.h (ou () (hr:=hr) (hv:=hv) (hp:=hp) (hk:=hk) (hF:=hF) (ho:=ho))
variable{Y:Type}
def gC
 {f:aB}
 {xs:ae aB}
 {re:ae jh}
 {fn:Fn}
 {first captured vs as:ae ah}
 {k1:ae OA}
 {F1:ae aI}
 {val:Y->ah}
 {k1':Y->ae OA}
 {fs:Y->ae aI}
 {pr:Y->Prop}
 {dS:Y->ae OA}
 {F2:Y->ae aI}
 (hc:aY P fn as captured k1 F1 val k1' fs pr)
 (next:∀y,pr y->R (λh=>aO P ds rest (act n ((d,val y)::l) D pm ro) h K) B w0 (dS y) (F2 y))
 {G:Prop} (r:dI G (R (λh=>aO P ds (⟨⟨some d,g,.call f xs⟩,re⟩::rest) (act n l D pm ro) h K) B w0 kl F):=by exact AP)
 (hn:Nat.blt d n=true:=by rfl)
 (hg:bJ l g=true:=by rfl)
 (hf:ev l f=.func fn ⟨first⟩ ⟨captured⟩:=by rfl)
 (hx:EvL (ev l) xs vs:=by exact Za)
 (ha:first++vs=as:=by rfl)
 (hk:aJ k1 kl bA:=by exact lH)
 (hF:Sub F1 F:=by exact kV)
 (hak:∀y,dz (k1' y) bA (dS y):=by exact qb)
 (qZ:∀y,dz (fs y) F (F2 y):=by exact qb)
 (hs:∀y,pr y->Same P re (ev ((d,val y)::l)) ((d,val y)::l) B w0 (dS y) (F2 y):=by exact Y9):G:=r.h (fH (hc:=hc) (hn:=hn) (hg:=hg) (hf:=hf) (hx:=hx) (ha:=ha) (hk:=hk) (hF:=hF) (hak:=hak) (qZ:=qZ) (hs:=hs) (next:=next))
variable{α:Type}
def gX
 {x i:aB}
 {v:ah}
 {xs:ae α}
 {size:Nat}
 {k:Nat}
 {kk:IntKind}
 (E:Enc α)
 {F2:α->E.Y->ae aI}
 (next:∀b o z y,xs[k]? =some z->R (λh=>aO P ds rest (act n ((d,.pointer (some ⟨b,o,none⟩))::l) D pm ro) h K) B w0 kl (aX b o (E.pat z y)::F2 z y))
 {G:Prop} (r:dI G (R (λh=>aO P ds (⟨⟨some d,g,.jw size x i⟩,[]⟩::rest) (act n l D pm ro) h K) B w0 kl F):=by exact AP)
 (hn:Nat.blt d n=true:=by rfl)
 (hg:bJ l g=true:=by rfl)
 (hx:ev l x=v:=by conv=>lhs;whnf)
 (hi:ev l i=.int kk (k:Int):=by rfl)
 (hf:ay E v xs∈F:=by exact iN)
 (hs:E.n=size:=by rfl)
 (h1:k<xs.length:=by omega)
 (ha:∀z y,dz (E.fs z y) F (F2 z y):=by exact Zb):G:=r.h (Ey (E:=E) (hn:=hn) (hg:=hg) (hx:=hx) (hi:=hi) (hf:=hf) (hs:=hs) (h1:=h1) (ha:=ha) (next:=next))
def gQ
 {o:Out}
 {cf:iJ}
 {vs:ae ah}
 {val:Y->ah}
 {k1:Y->ae OA}
 {fs:Y->ae aI}
 {pr:Y->Prop}
 (y:Y)
 (hp:pr y)
 (hr:RS l kl cf.results vs:=by exact zB)
 (hv:qX vs=val y:=by rfl)
 (hk:aJ (k1 y) kl bA:=by exact lH)
 (hF:Sub (fs y) F:=by exact kV)
 (ho:o=.normal\/o=.ret:=by exact Ex):R (λh=>zy cf (Left B w0 val k1 fs pr) o (act n l [] none ro) h) B w0 kl F:=ou (y:=y) (hr:=hr) (hv:=hv) (hp:=hp) (hk:=hk) (hF:=hF) (ho:=ho)
def gL{X:Type}
 {c:dD}
 {l0:qr}
 {L2:X->qr}
 {uM:X->ae OA}
 {uN:X->ae aI}
 (m:X->Nat) (L:X->qr) (inv:X->Prop) (x0:X) (hi:inv x0)
 (body:∀x,inv x->R (λh=>EV P c (act n (L2 x) D pm ro) h (vT (LI n D pm ro B w0 m L (λ_=>[]) (λ_=>[]) inv l0 bA F) (m x) K)) B w0 (uM x) (uN x))
 {G:Prop} (r:dI G (R (λh=>EV P (.loop c) (act n l D pm ro) h K) B w0 kl F):=by exact AP)
 (h0:vV l (L x0) l0:=by exact JY)
 (hl:sub (L x0++l0) l:=by exact Ew)
 (hk:aJ ([]) kl bA:=by exact lH)
 (hF:Sub ([]) F:=by exact kV)
 (hak:∀x,dz ([]) bA (uM x):=by exact qb)
 (qZ:∀x,dz ([]) F (uN x):=by exact qb)
 (hal:∀x,dz (L x) l0 (L2 x):=by exact qb):G:=r.h (dL (m:=m) (L:=L) (KL:=λ_=>[]) (FF:=λ_=>[]) (inv:=inv) (x0:=x0) (hi:=hi) (h0:=h0) (hl:=hl) (hk:=hk) (hF:=hF) (hak:=hak) (qZ:=qZ) (hal:=hal) (body:=body))
def gN{c:dD}
 {l0:qr}
 {L2:Nat->qr}
 {uM:Nat->ae OA}
 {uN:Nat->ae aI}
 (N q:Nat) (inv:Nat->Prop) (hi:inv 0)
 (body:∀x,inv x->R (λh=>EV P c (act n (L2 x) D pm ro) h (vT (LI n D pm ro B w0 (λk=>N - k) (λk:Nat=>[(q,.int .i64 (k:Int))]) (λ_=>[]) (λ_=>[]) inv l0 bA F) (N - x) K)) B w0 (uM x) (uN x))
 {G:Prop} (r:dI G (R (λh=>EV P (.loop c) (act n l D pm ro) h K) B w0 kl F):=by exact AP)
 (h0:vV l ([(q,.int .i64 ((0:Nat):Int))]) l0:=by exact JY)
 (hl:sub ([(q,.int .i64 ((0:Nat):Int))]++l0) l:=by exact Ew)
 (hk:aJ ([]) kl bA:=by exact lH)
 (hF:Sub ([]) F:=by exact kV)
 (hak:∀x,dz ([]) bA (uM x):=by exact qb)
 (qZ:∀x,dz ([]) F (uN x):=by exact qb)
 (hal:∀x,dz ([(q,.int .i64 (x:Int))]) l0 (L2 x):=by exact qb):G:=r.h (dL (m:=(λk=>N - k)) (L:=(λk:Nat=>[(q,.int .i64 (k:Int))])) (KL:=λ_=>[]) (FF:=λ_=>[]) (inv:=inv) (x0:=(0:Nat)) (hi:=hi) (h0:=h0) (hl:=hl) (hk:=hk) (hF:=hF) (hak:=hak) (qZ:=qZ) (hal:=hal) (body:=body))
variable{Q:IH->Prop}
def gF(E:Enc α)(v:ah)(xs:ae α)(h:∀a c,v=.slice a xs.length c->R Q B w0 kl F)(hf:ay E v xs∈F:=by exact iN):R Q B w0 kl F:=ajd hf h
variable{F2:ae aI}
def gZ{A:OA}{fs:ae aI}(hA:qV A fs)(h:R Q B w0 kl' F2)(hk:aD A kl kl':=by exact dG)(ha:dz fs F F2:=by exact Gy):R Q B w0 kl F:=mI hA hk ha h
def gP{cs:ae ah}(b:Nat)(h:R Q B w0 kl' F2)(hk:aD (pt b (.cells cs)) kl kl':=by exact dG)(ha:dz [aX b 0 cs] F F2:=by exact Gy):R Q B w0 kl F:=mI ail hk ha h
def gH{t1 t2:Nat}{e:Bool}{f t:Prop}(h1:f->R (λh=>aO P ds rest (act n ((t1,.bool false)::(t2,.bool false)::l) D pm ro) h K) B w0 kl F)(h2:t->R (λh=>aO P ds rest (act n ((t1,.bool true)::(t2,.bool true)::l) D pm ro) h K) B w0 kl F)
 (r:dI G (R (λh=>aO P ds rest (act n ((t1,.bool e)::(t2,.bool e)::l) D pm ro) h K) B w0 kl F):=by exact AP) (i:CG e f t:=by exact inferInstance):G:=r.h (have _q:CG e f t:=i;gG h1 h2)
abbrev iV(n:Int):ah:=.int .i64 n
abbrev fC(P:Program){Y:Type}(f:gy)(args:ae ah)(F:ae aI)(v:Y->ah)(Q:Y->Prop):Prop:=aY P (.func f) args [] [] F v (λ_=>[]) (λ_=>[]) Q
end
end Go.Ideal
namespace Go.Ideal
noncomputable def N9(L:Lay):Wd:=⟨mH L,λi=>i<(mH L).next,λ_ h=>h⟩
open Go.ChangeShapes Go.WideShapes Go.ChangeAt Go.RowKit
variable {P:Program}
def Gz{α:Type}(P:Program)(t:aM)(E:Enc α):Prop:=∀(w:Wd) (H:Type) (d:DataW H) (cs:ae ah),(∀i,i<w.h.next->w.z i)->jq P w.h t cs d->∃a y,cs=E.pat a y/\∀f∈E.fs a y,f.p w
def Oa{α:Type}{p:Nat->α->Prop}:∀n,(∀k,k<n->∃a,p k a)->∃l:ae α,l.length=n/\∀(k:Nat) a,l[k]? =some a->p k a
 |0,_=>⟨[],rfl,λk a h=>by cases h⟩
 |n+1,h=>by
  obtain⟨l,h1,h2⟩:=Oa n (λk hk=>h k s6);obtain⟨a,ha⟩:=h n s6;refine⟨l++[a],by simp[h1],λk b hb=>?_⟩
  grind
def Zc{α β:Type}(E1:Enc α)(E2:Enc β):Enc (α×β):=⟨E1.n+E2.n,E1.Y×E2.Y,λa y=>E1.pat a.1 y.1++E2.pat a.2 y.2,λa y=>E1.fs a.1 y.1++E2.fs a.2 y.2,λa y=>by rw[fu,E1.len,E2.len]⟩
def Zd:Enc Unit:=⟨0,Unit,λ_ _=>[],λ_ _=>[],λ_ _=>rfl⟩
inductive GA(P:Program):{α:Type}->List Field->Enc α->Prop
 |nil:GA P [] Zd
 |cons {α β:Type} {f:Field} {fs:List Field} {E1:Enc α} {E2:Enc β} (h:Gz P f.type E1) (hn:P.cellsOf f.type=E1.n) (t:GA P fs E2):GA P (f::fs) (Zc E1 E2)
def GA.Ob{w:Wd}{H:Type}(hz:∀i,i<w.h.next->w.z i):∀{α:Type} {fs:ae Field} {E:Enc α},GA P fs E->∀(o0:Nat) (cs:ae ah) (ds:ae (DataW H)),cs.length=(fs.map λf=>P.cellsOf f.type).sum->ds.length=fs.length->
 fs.map (·.offset)=sums o0 (fs.map λf=>P.cellsOf f.type)->(∀(j:Nat) f d,fs[j]? =some f->ds[j]? =some d->jq P w.h f.type ((cs.drop (f.offset - o0)).take (P.cellsOf f.type)) d)->∃a y,cs=E.pat a y/\∀f∈E.fs a y,f.p w
 |_,_,_,.nil,o0,cs,ds,h1,h2,h3,h4=>⟨(),(),pU.1 tG,λf hf=>by cases hf⟩
 |_,_,_,.cons (f:=f) (fs:=fs) (E1:=E1) (E2:=E2) h hn t,o0,cs,ds,h1,h2,h3,h4=>by
  match ds,h2 with
  |d::ds,h2=>
   simp only[iX,FJ,sums,List.cons.injEq]at h1 h3;obtain⟨ho,h3⟩:=h3;have r0:=h4 0 f d rfl rfl;rw[ho,um,za]at r0;obtain⟨a,y,q1,q2⟩:=h w H d _ hz r0;obtain⟨b,z,u1,u2⟩:=GA.Ob hz t (o0+P.cellsOf f.type) (cs.drop (P.cellsOf f.type)) ds (by grind) wk h3 (λj g e hg he=>by
    exact ew)
   refine⟨(a,b),(y,z),?_,?_⟩
   .show cs=E1.pat a y++E2.pat b z;rw[<- q1,<- u1,l5]
   .exact pP
def Gz.conv{α β:Type}{t:aM}{E:Enc α}{E':Enc β}(h:Gz P t E)(hc:∀a y,∃b z,E.pat a y=E'.pat b z/\E.fs a y=E'.fs b z):Gz P t E':=λw H d cs hz r=>by
 obtain⟨a,y,q1,q2⟩:=h w H d cs hz r;obtain⟨b,z,e1,e2⟩:=hc a y
 grind
section
variable {H:Type} {enc:aM×ah->H} {W:World} {K:aM->Prop}
def zC(P:Program)(w:Wd)(t:aM)(v:ah){H:Type}(d:DataW H):Prop:=∃cs,jq P w.h t cs d/\((kQ P t=true/\v=.agg ⟨cs⟩)\/(kQ P t=false/\cs=[v]))
variable{w:Wd}{t:aM}{v:ah}{d:DataW H}{α:Type}
def zC.agg{E:Enc α}(h:zC P w t v d)(hz:∀i,i<w.h.next->w.z i)(ha:kQ P t=true)(hr:Gz P t E):∃a y,v=.agg ⟨E.pat a y⟩/\∀f∈E.fs a y,f.p w:=by
 exact me
def zC.one{E:Enc α}(h:zC P w t v d)(hz:∀i,i<w.h.next->w.z i)(ha:kQ P t=false)(hr:Gz P t E):∃a y,E.pat a y=[v]/\∀f∈E.fs a y,f.p w:=by
 exact mc
variable{L:Lay}
def ajh{v0:ah}(hw:w.h=mH L)(r:Cz P (mH L) t v d)(hv:VR (l6 L) v v0)(hok:Value.okWide P W .any 0 t v0):zC P w t v d:=by
 obtain⟨cs,r1,h2,h3⟩:=r;refine⟨cs,by rw[hw];exact r1,?_⟩;cases ha:kQ P t with
 |true=>
  left;refine⟨rfl,?_⟩;rcases h3 with e|e
  .subst e;have hagg:∃c,v0=.agg c:=by
    unfold kQ at ha;unfold Value.okWide at hok
    grind
   obtain⟨c,rfl⟩:=hagg;cases hv<;>simp[cellV]at h2
  .exact e
 |false=>
  right;refine⟨rfl,?_⟩;rcases h3 with e|e
  .exact e
  .subst e;cases hv with
   |agg hc hl=>
    cases hu:P.underlying t with
    |none=>simp[Value.okWide,Cell.okWide,Cell.ok,hu]at hok
    |some d=>cases d<;>simp[Value.okWide,Cell.okWide,Cell.ok,kQ,hu]at hok ha
def aji{ts:ae aM}{vs' vs:ae ah}(hv:bB (l6 L) vs' vs):∀(j:Nat) v',vs'[j]? =some v'->∃v,vs[j]? =some v/\VR (l6 L) v' v:=by
 intro j;induction j generalizing vs' vs with
 |zero=>
  intro v' h;cases hv with
  |nil=>cases h
  |cons h1 h2=>grind
 |succ j ih=>
  intro v' h;cases hv with
  |nil=>cases h
  |cons h1 h2=>exact ih h2 v' h
def Ze{a:Nat}{b:Nat->Bool}{c:Bool}:∀{ts:ae aM} {vs:ae ah} {ds:ae (DataW H)} {ps:ae MemPlace},DataW.TrodAll enc P W a b c ts vs ds ps->vs.length=ts.length/\ds.length=ts.length
 |[],[],[],_,_=>⟨rfl,rfl⟩
 |_::_,_::_,_::_,_,⟨_,_,_,h,_⟩=>by
  have:=Ze h;simp[this.1,this.2]
def ajj(sW:P.follows .mixedOrders=true)(hgl:P.globals.size=0){f:gy}(fn:Func)(hfn:P.funcs[f]? =some fn)(hbody:fn.body.isNone=false)(hname:(fn.name== "runtime.NumGoroutine")=false)
 (hK:∀t,K t->PlainT P K t) {ts:ae aM} {vs:ae ah} {ds:ae (DataW H)} {ps:ae MemPlace} (hT:∀t∈ts,K t) (hok:∀(j:Nat) t v,ts[j]? =some t->vs[j]? =some v->Value.okWide P W .any 0 t v)
 (hA:DataW.TrodAll enc P W 0 (λ_=>true) true ts vs ds ps)
 (ajk:∀(w:Wd) (vs':ae ah),(∀i,i<w.h.next->w.z i)->vs'.length=vs.length->(∀(j:Nat) t v d,ts[j]? =some t->vs'[j]? =some v->ds[j]? =some d->zC P w t v d)->∃F,(∀f∈F,f.p w)/\dO P f vs' F (.bool true)):
 Calls P f ⟨vs⟩ W (λe w'=>e=.returned (.bool true)/\Below W.heap.size W w'):=by
 obtain⟨M,vs',h1,h2,h3⟩:=YW hK hT hok hA [];refine ah8 sW hgl fn hfn hbody hname (λi g cs hi=>h3 i g cs (bI _) w8|>λq=>by simpa using q) h1 rfl ?_;have hlen:vs'.length=vs.length:=by
  have:∀{a b:ae ah},bB (l6 M) a b->a.length=b.length:=by
   intro a;induction a with
   |nil=>intro b h;cases h;rfl
   |cons x a ih=>intro b h;cases h with|cons q r=>simp[ih r]
  exact this h1
 obtain⟨F,hF,hfn'⟩:=ajk (N9 M) vs' (λi hi=>hi) hlen (λj t v d ht hv hd=>by
  obtain⟨v0,e,oL⟩:=aji (ts:=ts) h1 j v hv;exact ajh rfl (h2 j t v d ht hv hd) oL (hok j t v0 ht e))
 have st:St [] (N9 M) [] F (N9 M):=⟨⟨bG _,λ_ _ _=>rfl,λ_ _=>rfl⟩,Wd.Le.refl _,λi _ hz=>.inl hz,⟨[],rfl,Ad,λi hi=>by cases hi⟩,hF⟩
 refine .vQ _ (hfn' [] (N9 M) st) ?_;rintro r pm h' ⟨rfl,w',y,rfl,s,rfl,_⟩;exact⟨rfl,rfl,⟨s.agree.next,λi hi=>s.agree.get i hi s7,λhl=>s.agree.low hl s7⟩⟩
end
end Go.Ideal
namespace Go.Ideal
variable {P:Program}
def rV(P:Program)(cf:iJ)(K:KR):KO:=λo a h=>match wW o with
 |none=>False
 |some m=>LEAVE P cf a.tmps a.defers m h λr h''=>K r a.pm h''
def ajl{Y:Type}{f:gy}{args cap:ae ah}{kl:ae OA}{F:ae aI}{val:Y->ah}{kl':Y->ae OA}{fs:Y->ae aI}{pr:Y->Prop}{c:dD}{m:Nat}{l0:qr}(cf:iJ)(hF:(vN P uB uC).F f=some cf)
 (hb:∀B w0,R (λh=>EV P c (act m l0 [] none none) h (rV P cf (Left B w0 val kl' fs pr))) B w0 kl F)
 (h1:cf.body=c:=by exact N8) (h2:uz cf.ntmps (jv (args++cap))=m:=by conv=>lhs;whnf) (h3:uL 0 (args++cap) []=l0:=by exact N7):aY P (.func f) args cap kl F val kl' fs pr:=by
 intro B w s;obtain⟨fn,e1,e2⟩:=(M9 P uB uC (λf q h v h' hm=>by cases hm)).fn f cf hF;refine YN cf fn e1 e2 ?_;rw[SL,h1,h2,h3];exact hb B w w s
section
variable {B:ae Nat} {w0:Wd} {kl kl' bA:ae OA} {F:ae aI} {K:KO} {n:Nat} {l:qr} {D:ae Deferred} {pm:az FrameMode} {ro:az Nat}
inductive kG:List OA->List Deferred->List OA->Prop
 |nil {kl:List OA}:kG kl [] kl
 |cons {kl kl' dS:List OA} {r:Nat} {args:Array Value} {D:List Deferred} (h:aD (pt r (.jJ true)) kl kl') (t:kG kl' D dS):kG kl ({target:=.collected r,args}::D) dS
def kG.leave{cf:iJ}{ts:T ah}{Kr:jL->IH->Prop}:∀{D:ae Deferred} {kl dS:ae OA},kG kl D dS->(∀w',St B w0 dS F w'->∃v,uA cf.results ts w'.h=some v/\Kr (.ok v) w'.h)->∀w,St B w0 kl F w->LEAVE P cf ts D .returning w.h Kr
 |_,_,_,.nil,hk,w,s=>by
  obtain⟨v,h1,h2⟩:=hk w s;exact .ret v h1 h2
 |_,_,_,.cons (r:=r) h t,hk,w,s=>by
  have s1:=s.fB h;refine .coll xT r s1.get.1 ?_;exact kG.leave t hk _ (s1.write).tail
variable{Y:Type}{o:Out}{dS:ae OA}
def Zf{cf:iJ}{vs:ae ah}{val:Y->ah}{k1:Y->ae OA}{fs:Y->ae aI}{pr:Y->Prop}(y:Y)(hD:kG kl D dS)(hr:RS l dS cf.results vs)(hv:qX vs=val y)(hp:pr y)(hk:aJ (k1 y) dS bA)(hF:Sub (fs y) F)
 (ho:o=.normal\/o=.ret):R (λh=>rV P cf (Left B w0 val k1 fs pr) o (act n l D none ro) h) B w0 kl F:=by
 intro w s;have key:LEAVE P cf (iZ l) D .returning w.h λr h''=>Left B w0 val k1 fs pr r none h'':=by
  refine kG.leave hD (λw' s'=>⟨val y,?_,rfl,w',y,rfl,((s'.ku hk).drop).sub hF,rfl,hp⟩) w s;unfold uA;rw[hr.all s',<- hv];exact oB
 rcases ho with rfl|rfl
 .exact key
 .exact key
def tq(L:nJ):nJ:={L with state:=.busy}
def mJ(L:nJ)(o:Out):nJ:=match o with
 | .normal=>{L with state:=.ready,pending:=none}
 |o=>{L with state:=.done,pending:=some o}
def ow(o:Out):Bool:=match o with
 | .normal=>true
 |_=>false
def xq(o:Out):Prop:=match o with
 | .panic _=>False
 |_=>True
def Oc(B:ae Nat)(w0:Wd)(n:Nat)(l3:qr)(lo:Nat)(kl:ae OA)(F:ae aI):KO:=λo a h=>
 o=.normal/\a=act n l3 [] none (some lo)/\∃w:Wd,w.h=h/\St B w0 kl F w
variable{lo:Nat}
def ajm:R (λh=>Oc B w0 n l lo kl F .normal (act n l [] none (some lo)) h) B w0 kl F:=λw s=>⟨rfl,rfl,w,rfl,s⟩
def xu{Y:Type}(B:ae Nat)(w0:Wd)(lo:Nat)(L:nJ)(out:Y->Out)(k1:Y->ae OA)(fs:Y->ae aI)(pr:Y->Prop):KO:=λo a h=>
 a.defers=[]/\∃(w:Wd) (y:Y),w.h=h/\o=out y/\xq o/\St B w0 (pt lo (.loop (tq L))::k1 y) (fs y) w/\pr y
variable{L:nJ}
def ajn{out:Y->Out}{k1:Y->ae OA}{fs:Y->ae aI}{pr:Y->Prop}(y:Y)(ho:o=out y)(hn:xq o)(hp:pr y)(hk:aJ (pt lo (.loop (tq L))::k1 y) kl dS)(hF:Sub (fs y) F):
 R (λh=>xu B w0 lo L out k1 fs pr o (act n l [] none ro) h) B w0 kl F:=λw s=>⟨rfl,w,y,rfl,ho,hn,((s.ku hk).drop).sub hF,hp⟩
def SQ(n:Nat):∀(ps:ae Tmp) (args:ae ah) (l:qr),ps.all (λp=>Nat.blt p n)=true->ps.length=args.length->∃l2,Cj n ps args (iZ l)=iZ l2/\l2=(ps.zip args).reverse++l
 |[],[],l,_,_=>⟨l,rfl,rfl⟩
 |p::ps,v::args,l,h,e=>by
  simp only[L6,gV]at h;obtain⟨l2,h1,h2⟩:=SQ n ps args ((p,v)::l) h.2 wg;refine⟨l2,?_,x6⟩;rw[<- h1];show Cj n ps args (cond (Nat.blt p n) ((iZ l).set p (some v)) (iZ l))=_;rw[h.1];rfl
variable{k1:ae OA}
def ajo{args:ae ah}{out:Y->Out}{k1':Y->ae OA}{fs:Y->ae aI}{pr:Y->Prop}(l l3:qr)(hl:L.tmps=iZ l)(hst:L.state=.ready)(hps:L.params.all (λp=>Nat.blt p L.n)=true)(hlen:L.params.length=args.length)
 (ha:∀B w0,R (λh=>EV P L.assign (act L.n ((L.params.zip args).reverse++l) [] none (some lo)) h (Oc B w0 L.n l3 lo (pt lo (.loop L)::k1) F)) B w0 (pt lo (.loop L)::k1) F)
 (hb:∀B w0,R (λh=>EV P L.body (act L.n l3 [] none (some lo)) h (xu B w0 lo L out k1' fs pr)) B w0 (pt lo (.loop (tq L))::k1) F):
 aY P (.yield lo) args [] (pt lo (.loop L)::k1) F (λy:Y=>.bool (ow (out y))) (λy=>pt lo (.loop (mJ L (out y)))::k1' y) fs pr:=by
 intro B w s;obtain⟨l2,e1,e2⟩:=SQ L.n L.params args l hps hlen;refine .round lo rfl rfl L s.get.1 hlen.symm _ (by
  rw[hl];rw[e1,e2];exact ha B w w s) ?_ ?_
 .rintro o a h ⟨rfl,rfl,w1,rfl,s1⟩;exact⟨rfl,L,s1.get.1,hst⟩
 .rintro a h r1 ⟨_,rfl,w1,rfl,s1⟩ hr;have hr1:r1=L:=by
   have:=s1.get.1;rw[hr]at this;exact pB
  subst hr1;have hb:=hb B w _ (s1.write);exact cV
def Od{f:aB}{ps:ae Tmp}{assign body:dD}{fn:Fn}{first captured:ae ah}{F1:ae aI}{GD:Y->ah}{out:Y->Out}{k1':Y->ae OA}{fs:Y->ae aI}{pr:Y->Prop}
 (hf:ev l f=.func fn ⟨first⟩ ⟨captured⟩)
 (it:∀lo r,aY P fn (first++[.func (.yield lo) #[] #[]]) captured (pt lo (.loop ⟨.ready,none,iZ l,n,ps,assign,body,r⟩)::k1) F1 GD (λy=>pt lo (.loop (mJ ⟨.ready,none,iZ l,n,ps,assign,body,r⟩ (out y)))::k1' y) fs pr)
 (hk:aJ k1 kl bA) (hF:Sub F1 F)
 (next:∀r y,pr y->R (λh=>K (out y) (act n l ({target:=.collected r,args:= #[]}::D) pm none) h) B w0 (k1' y++(pt r (.jJ true)::bA)) (fs y++F)):
 R (λh=>EV P (.rangeFunc f ps assign body) (act n l D pm none) h K) B w0 kl F:=by
 intro w s;let L:Nat->nJ:=λr=>⟨.ready,none,iZ l,n,ps,assign,body,r⟩
 let r:=w.h.next
 let w1:=w.new (.jJ true)
 have s1:St B w0 (pt r (.jJ true)::kl) F w1:=s.new _;let lo:=w1.h.next
 let w2:=w1.new (.loop (L r))
 have s2:St B w0 (pt lo (.loop (L r))::pt r (.jJ true)::kl) F w2:=s1.new _;have s3:=s2.ku (.cons .here (by
  have:∀{k kl bA:ae OA} (A:OA),aJ k kl bA->aJ k (A::kl) (A::bA):=by
   intro k kl bA A h;exact ph
  exact this _ hk))
 obtain⟨S,h1,h2,h3⟩:=s3.own;obtain⟨S1,S2,q1,q2,hp⟩:=h1.ku (by
  have:∀(k kr:ae OA),aJ k (k++kr) kr:=by
   intro k kr;induction k with
   |nil=>exact .nil
   |cons A k ih=>exact .cons .here ih
  exact this _ _)
 have st1:St S1 w2 (pt lo (.loop (L r))::k1) F1 w2:=⟨⟨bG _,λ_ _ _=>rfl,λ_ _=>rfl⟩,Wd.Le.refl w2,λi _ hz=>.inl hz,(by grind),λf hf=>s2.facts f (hF.mem f hf)⟩
 have hc:=it lo r S1 w2 st1;refine .rangeFunc fn first captured (by rw[qa];exact hf) (act n l ({target:=.collected r,args:= #[]}::D) pm none) w1.h r (.inl ⟨rfl,rfl,rfl,rfl⟩) (Left S1 w2 GD (λy=>pt lo (.loop (mJ (L r) (out y)))::k1' y) fs pr) ?_ ?_ ?_
 .rw[kR];exact hc
 .rintro v pm' h' ⟨rfl,w',y,rfl,c,hv,hpr⟩;have sc:=s3.call (k1:=pt lo (.loop (L r))::k1) (F1:=F1) ⟨S,hp,h2,h3⟩ q2 c;have hg:=(sc).get;refine⟨mJ (L r) (out y),hg.1,?_,?_⟩
  .cases out y<;>simp[mJ]
  .have e:(mJ (L r) (out y)).pending.getD .normal=out y:=by cases out y<;>rfl
   rw[e];exact next r y hpr _ (St.write sc).tail
 .rintro ch pm' h' ⟨rfl,w',y,rfl,c,hv,hpr⟩;cases hv
end
end Go.Ideal
namespace Go.Ideal
variable {P:Program}
def cz{S α:Type}(step:S->α->S×Bool):S->ae α->S
 |s,[]=>s
 |s,x::xs=>match step s x with
  |(s',true)=>cz step s' xs
  |(s',false)=>s'
def gM{S α:Type}(step:S->α->S×Out):S->ae α->S×Out
 |s,[]=>(s,.normal)
 |s,x::xs=>match step s x with
  |(s',.normal)=>gM step s' xs
  |(s',o)=>(s',o)
def GG{α:Type}(P:Program)(val:α->ah)(fn:Fn)(first cap:ae ah)(F:ae aI)(xs:ae α):Prop:=
 ∀(S:Type) (inv:S->ae OA) (ok:Nat->S->Prop) (step:S->α->S×Bool) (s0:S) (oM:Fn) (y1 y2:ae ah) (F':ae aI),ok 0 s0->(∀k s x,ok k s->xs[k]? =some x->(step s x).2=true->ok (k+1) (step s x).1)->
  (∀k s x,ok k s->xs[k]? =some x->aY P oM (y1++[val x]) y2 (inv s) F' (λ_:Unit=>.bool (step s x).2) (λ_=>inv (step s x).1) (λ_=>[]) (λ_=>True))->
  aY P fn (first++[.func oM ⟨y1⟩ ⟨y2⟩]) cap (inv s0) (F++F') (λ_:Unit=>.tuple ⟨[]⟩) (λ_=>inv (cz step s0 xs)) (λ_=>[]) (λ_=>True)
def Sub.refl'{α:Type}:∀(l k:ae α),Sub l (k++l)
 |[],_=>.nil
 |a::l,k=>.cons (by grind) (by have:=Sub.refl' l (k++[a]);grind)
def Sub.app{α:Type}:∀{k1 k2 l:ae α},Sub k1 l->Sub k2 l->Sub (k1++k2) l
 |_,_,_,.nil,h=>h
 |_,_,_,.cons h h1,h2=>.cons h (h1.app h2)
section
variable {B:ae Nat} {w0:Wd} {kl kl' bA:ae OA} {F:ae aI} {K:KO} {n:Nat} {l:qr} {D:ae Deferred} {pm:az FrameMode} {ro:az Nat}
def JZ{S α:Type}{step:S->α->S×Out}:∀(xs:ae α) (s:S),cz (λ(so:S×Out) x=>(step so.1 x,ow (step so.1 x).2)) (s,Out.normal) xs=gM step s xs
 |[],s=>rfl
 |x::xs,s=>by
  have ih:=JZ (step:=step) xs;simp only[cz,gM];cases h:step s x with
  |mk s' o=>
   cases o with
   |normal=>exact ih s'
   |_=>simp only[ow]
def ajp{S α:Type}{f:aB}{ps:ae Tmp}{assign body:dD}{fn:Fn}{first captured:ae ah}{val:α->ah}{F1:ae aI}{xs:ae α}(step:S->α->S×Out)(inv:S->ae OA)(ok:Nat->S->Prop)(s0:S)(h0:ok 0 s0)(hok:∀k s x,ok k s->xs[k]? =some x->(step s x).2=.normal->ok (k+1) (step s x).1)(hit:GG P val fn first captured F1 xs)
 (hf:ev l f=.func fn ⟨first⟩ ⟨captured⟩) (hps:ps.all (λp=>Nat.blt p n)=true) (hlen:ps.length=1) (hk:aJ (inv s0) kl bA) (hF:Sub F1 F) (jM:∀s x,xq (step s x).2)
 (l3:α->qr)
 (ha:∀(s:S) (x:α) (lo:Nat) (o:fw) B w0,R (λh=>EV P assign (act n ((ps.zip [val x]).reverse++l) [] none (some lo)) h (Oc B w0 n (l3 x) lo (pt lo o::inv s) F)) B w0 (pt lo o::inv s) F)
 (hb:∀(k:Nat) (s:S) (x:α) (lo:Nat) (L:nJ) B w0,ok k s->xs[k]? =some x->R (λh=>EV P body (act n (l3 x) [] none (some lo)) h (xu B w0 lo L (λ_:Unit=>(step s x).2) (λ_=>inv (step s x).1) (λ_=>[]) (λ_=>True))) B w0 (pt lo (.loop (tq L))::inv s) F)
 (next:∀r,R (λh=>K (gM step s0 xs).2 (act n l ({target:=.collected r,args:= #[]}::D) pm none) h) B w0 (inv (gM step s0 xs).1++(pt r (.jJ true)::bA)) F):
 R (λh=>EV P (.rangeFunc f ps assign body) (act n l D pm none) h K) B w0 kl F:=by
 refine Od (Y:=Unit) (GD:=λ_=>.tuple ⟨[]⟩) (fs:=λ_=>[]) (pr:=λ_=>True) hf ?_ hk (hF.app (Sub.refl' F [])) (λr y _=>next r);intro lo r;have:=hit (S×Out) (λso=>pt lo (.loop (mJ ⟨.ready,none,iZ l,n,ps,assign,body,r⟩ so.2))::inv so.1) (λk so=>so.2=.normal/\ok k so.1) (λso x=>(step so.1 x,ow (step so.1 x).2)) (s0,.normal) (.yield lo) [] [] F ⟨rfl,h0⟩
  (λk so x ho hx h=>by
    exact eo)
  (λk so x ho hx=>by
    obtain⟨s,o⟩:=so;obtain⟨hn,ho⟩:=ho;subst hn;exact ajo (L:=⟨.ready,none,iZ l,n,ps,assign,body,r⟩) l (l3 x) rfl rfl hps hlen
     (λB w0=>ha s x lo _ B w0) (by grind))
 rw[JZ]at this;exact this
end
end Go.Ideal
namespace Go.Ideal
variable {P:Program} {ρ:aB->ah}
def wrapN{m:Nat}(h:m<9223372036854775808):IntKind.i64.wrap (m:Int)=m:=wrap64 s6 s6
variable{a b:Nat}{x y:aB}{t:aM}
def J2(hx:ρ x=.int .i64 (a:Int))(hy:ρ y=.int .i64 (b:Int))(hb:b<64):Pu P ρ (.bin .shr t x y) (.int .i64 ((a>>>b:Nat):Int)):=λh=>by
 simp only[aR.run,hx,hy];rw[Eu (v:=.int .i64 ((a>>>b):Int)) rfl (by
  show dX P (Op.shift .shr .i64 a .i64 b)=_;show some (Value.int .i64 ((a:Int).fdiv (2^(min (b:Int).toNat 64))))=_;rw[Me]
  grind) rfl]
def SS(hx:ρ x=.int .i64 (a:Int))(hy:ρ y=.int .i64 (b:Int))(hb:b<64)(hr:a<<<b<9223372036854775808):Pu P ρ (.bin .shl t x y) (.int .i64 ((a<<<b:Nat):Int)):=λh=>by
 simp only[aR.run,hx,hy];rw[Eu (v:=.int .i64 ((a<<<b:Nat))) rfl (by
  show dX P (Op.shift .shl .i64 a .i64 b)=_;show some (Value.int .i64 (IntKind.i64.wrap (a*2^(min (b:Int).toNat 64))))=_;rw[show min (b:Int).toNat 64=b by omega];rw[show(a*2^b)=((a<<<b):Int)by rw[Nat.shiftLeft_eq];simp,wrapN hr]) rfl]
def Oe(h:a<9223372036854775808):(BitVec.ofInt 64 (a:Int)).toNat=a:=by
 grind
def J3(hx:ρ x=.int .i64 (a:Int))(hy:ρ y=.int .i64 (b:Int))(ha:a<9223372036854775808)(hb:b<9223372036854775808):Pu P ρ (.bin .and t x y) (.int .i64 ((a&&&b:Nat):Int)):=λh=>by
 simp only[aR.run,hx,hy];rw[Eu rfl (by
  show some (Value.int .i64 (IntKind.i64.wrap ((BitVec.ofInt 64 a&&&BitVec.ofInt 64 b).toNat:Int)))=_;rw[BitVec.toNat_and,Oe ha,Oe hb,wrapN (IY Nat.and_le_left ha)]) rfl]
def Zg(hx:ρ x=.int .i64 (a:Int))(hy:ρ y=.int .i64 (b:Int))(ha:a<9223372036854775808)(hb:b<9223372036854775808):Pu P ρ (.bin .or t x y) (.int .i64 ((a|||b:Nat):Int)):=λh=>by
 simp only[aR.run,hx,hy];rw[Eu rfl (by
  show some (Value.int .i64 (IntKind.i64.wrap ((BitVec.ofInt 64 a|||BitVec.ofInt 64 b).toNat:Int)))=_;have:a|||b<2^63:=QI s6 s6;rw[BitVec.toNat_or,Oe ha,Oe hb,wrapN s6]) rfl]
end Go.Ideal
namespace Go.Ideal
variable {P:Program}
def Ez{X:Type}(f:X->ae OA):OA:=⟨λw S=>∃x,fJ w (f x) S,λa h ⟨x,hx⟩=>⟨x,fJ.loc a h hx⟩⟩
variable{ρ:aB->ah}{x y:aB}{a b:Int}
def Zh(hx:ρ x=.int .i64 a)(hy:ρ y=.int .i64 b):Pu P ρ (.Ce true [x,y]) (.int .i64 (max a b)):=λh=>by
 have e:o9 ρ [x,y]=[.int .i64 a,.int .i64 b]:=by rw[xW];simp[hx,hy]
 simp only[aR.run,e,Ak,cond];by_cases hb:b<=a
 .rw[uF,eB hb,Int.max_eq_left hb]
 .have:leZ b a=false:=by rw[uF,dA hb]
  grind
def GH(hx:ρ x=.int .i64 a)(hy:ρ y=.int .i64 b):Pu P ρ (.Ce false [x,y]) (.int .i64 (min a b)):=λh=>by
 have e:o9 ρ [x,y]=[.int .i64 a,.int .i64 b]:=by rw[xW];simp[hx,hy]
 simp only[aR.run,e,Ak,cond];by_cases hb:a<=b
 .rw[uF,eB hb,Int.min_eq_left hb]
 .have:leZ a b=false:=by rw[uF,dA hb]
  grind
section
variable {B:ae Nat} {w0:Wd} {kl kl' bA:ae OA} {F:ae aI} {K:KO} {n:Nat} {l:qr} {D:ae Deferred} {pm:az FrameMode} {ro:az Nat}
variable{X:Type}{Q:IH->Prop}
def rW{f:X->ae OA}{dS:X->ae OA}(hk:aD (Ez f) kl kl':=by exact dG)(ha:∀x,dz (f x) kl' (dS x):=by intro x;repeat (first|exact dz.nil|apply dz.cons|exact dz.self|exact dz.app))(h:∀x,R Q B w0 (dS x) F):R Q B w0 kl F:=λw s=>by
 obtain⟨S,⟨S1,S2,⟨x,q1⟩,q2,e⟩,h2,h3⟩:=(s.fB hk).own;refine h x w ?_;rw[<- (ha x).eq];exact⟨s.agree,s.le,s.fF,⟨S,by rw[e];exact q1.app q2,h2,h3⟩,s.facts⟩
def oz(f:X->ae OA)(x:X){Q:IH->Prop}(hk:aJ (f x) kl bA:=by exact lH)(h:R Q B w0 (Ez f::bA) F):R Q B w0 kl F:=λw s=>by
 obtain⟨S,h1,h2,h3⟩:=s.own;obtain⟨S1,S2,q1,q2,hp⟩:=h1.ku hk;exact h w ⟨s.agree,s.le,s.fF,⟨S1++S2,⟨S1,S2,⟨x,q1⟩,q2,rfl⟩,hp.nodup h2,(by grind)⟩,s.facts⟩
def fA(g:aI)(hg:∀w:Wd,(∀f∈F,f.p w)->g.p w)(h:R Q B w0 kl (g::F)):R Q B w0 kl F:=λw s=>
 h w ⟨s.agree,s.le,s.fF,s.own,λf hf=>by
  rcases dm.1 hf with rfl|hf
  .exact hg w s.facts
  .exact s.facts f hf⟩
variable{α:Type}
def SV{E:Enc α}{w:Wd}{b f c:Nat}{v:ah}{xs:ae α}(h1:(aX b 0 [v]).p w)(h2:(ay E v xs).p w)(hc:1<=c:=by first|exact bG _|omega)(hf:f=0\/f=1:=by exact Ex):(ay (aA E) (.slice (some ⟨b,0,some f⟩) 1 c) [xs]).p w:=by
 obtain⟨cells,q1,q2⟩:=h1;refine .inr ⟨b,0,f,c,cells,⟨rfl,hc,hf⟩,q1,λk x hk=>?_⟩;match k,hk with
 |0,hk=>
  cases hk;refine⟨v,λj u hj=>?_,λg hg=>by rw[bR.1 hg];exact h2⟩;have:=q2 j u hj;simpa using this
variable{Y:Type}
def zD{f:gy}{args cap:ae ah}{kl:ae OA}{F:ae aI}{val:Y->ah}{kl':Y->ae OA}{fs:Y->ae aI}{pr:Y->Prop}{c:dD}{m:Nat}{l0:qr}(cf:iJ)(hF:(vN P uB uC).F f=some cf)
 (hb:∀B w0,R (λh=>EV P c (act m l0 [] none none) h (rV P cf (Left B w0 val kl' fs pr))) B w0 kl F)
 (h1:cf.body=c:=by exact N8) (h2:uz cf.ntmps (jv (args++cap))=m:=by conv=>lhs;whnf) (h3:uL 0 (args++cap) []=l0:=by exact N7):aY P (.func f) args cap kl F val kl' fs pr:=
 ajl cf hF hb h1 h2 h3
variable{dS:ae OA}
def uO{o:Out}{cf:iJ}{vs:ae ah}{val:Y->ah}{k1:Y->ae OA}{fs:Y->ae aI}{pr:Y->Prop}(y:Y)(hD:kG kl D dS:=by repeat (first|exact kG.nil|(apply kG.cons;(focus (repeat (first|with_reducible exact aD.here|with_reducible apply aD.there|with_reducible apply aD.app))))))
 (hr:RS l dS cf.results vs:=by exact zB) (hv:qX vs=val y) (hp:pr y)
 (hk:aJ (k1 y) dS bA:=by exact lH) (hF:Sub (fs y) F:=by exact kV)
 (ho:o=.normal\/o=.ret:=by exact Ex):R (λh=>rV P cf (Left B w0 val k1 fs pr) o (act n l D none ro) h) B w0 kl F:=
 Zf y hD hr hv hp hk hF ho
def Zi{S:Type}{f:aB}{ps:ae Tmp}{assign body:dD}{fn:Fn}{first captured:ae ah}{val:α->ah}{F1:ae aI}{xs:ae α}{l3:α->qr}(step:S->α->S×Out)(inv:S->ae OA)(ok:Nat->S->Prop)(s0:S)(h0:ok 0 s0)(hok:∀k s x,ok k s->xs[k]? =some x->(step s x).2=.normal->ok (k+1) (step s x).1)(hit:GG P val fn first captured F1 xs)
 (hb:∀(k:Nat) (s:S) (x:α) (lo:Nat) (L:nJ) B w0,ok k s->xs[k]? =some x->R (λh=>EV P body (act n (l3 x) [] none (some lo)) h (xu B w0 lo L (λ_:Unit=>(step s x).2) (λ_=>inv (step s x).1) (λ_=>[]) (λ_=>True))) B w0 (pt lo (.loop (tq L))::inv s) F)
 (next:∀r,R (λh=>K (gM step s0 xs).2 (act n l ({target:=.collected r,args:= #[]}::D) pm none) h) B w0 (inv (gM step s0 xs).1++(pt r (.jJ true)::bA)) F)
 (jM:∀s x,xq (step s x).2)
 (ha:∀(s:S) (x:α) (lo:Nat) (o:fw) B w0,R (λh=>EV P assign (act n ((ps.zip [val x]).reverse++l) [] none (some lo)) h (Oc B w0 n (l3 x) lo (pt lo o::inv s) F)) B w0 (pt lo o::inv s) F:=by intro s x lo o B w0;refine go ?_;exact ajm)
 (hf:ev l f=.func fn ⟨first⟩ ⟨captured⟩:=by rfl) (hps:ps.all (λp=>Nat.blt p n)=true:=by rfl) (hlen:ps.length=1:=by rfl)
 (hk:aJ (inv s0) kl bA:=by exact lH) (hF:Sub F1 F:=by exact kV):
 R (λh=>EV P (.rangeFunc f ps assign body) (act n l D pm none) h K) B w0 kl F:=
 ajp step inv ok s0 h0 hok hit hf hps hlen hk hF jM l3 ha hb next
def pE{lo:Nat}{L:nJ}{out:Y->Out}{k1:Y->ae OA}{fs:Y->ae aI}{pr:Y->Prop}{o:Out}(y:Y)(ho:o=out y)(hn:xq o)(hp:pr y)
 (hk:aJ (pt lo (.loop (tq L))::k1 y) kl dS:=by exact lH) (hF:Sub (fs y) F:=by exact kV):
 R (λh=>xu B w0 lo L out k1 fs pr o (act n l [] none ro) h) B w0 kl F:=ajn y ho hn hp hk hF
def jy(E:Enc α){ds:ae Tmp}{rest:ae bV}{d:Nat}{g:az (Tmp×Bool)}{e:aM}{size bytes b':Nat}{s x:aB}{v:ah}{xs:ae α}(a:α)(y:E.Y){cs:ae ah}{k1 k2:ae OA}
 (hm:(xs.length+1)*bytes<=1073741824/\(xs.length+1)*size<=1073741824/\xs.length+1<=1073741824)
 (next:∀ad,R (λh=>aO P ds rest (act n ((d,.slice ad (xs.length+1) (xs.length+1))::l) D pm ro) h K) B w0 (ap E (.slice ad (xs.length+1) (xs.length+1)) (xs++[a])::k2) F)
 (hn:Nat.blt d n=true:=by rfl) (hg:bJ l g=true:=by rfl)
 (hs:ev l s=v:=by conv=>lhs;whnf) (hx:ev l x=.slice (some ⟨b',0,some 0⟩) 1 1:=by rfl) (hk:aD (ap E v xs) kl k1:=by exact dG) (hc:aD (pt b' (.cells cs)) k1 k2:=by exact dG) (hp:cs=E.pat a y:=by rfl) (hF:Sub (E.fs a y) F:=by exact kV) (hz:E.n=size:=by rfl):
 R (λh=>aO P ds (⟨⟨some d,g,.append e size bytes s x⟩,[]⟩::rest) (act n l D pm ro) h K) B w0 kl F:=
 (aiZ hn hg hs hx hk hc hp hF hz hm).h λv' w st=>by
   obtain⟨S,⟨S1,S2,q,_⟩,_⟩:=st.own;obtain⟨ad,e⟩:=SH q;rw[fu]at e;subst e;exact next ad w st
section
variable {ds:ae Tmp} {rest:ae bV} {d:Nat} {g:az (Tmp×Bool)}
variable{v:ah}
def q_p{op:aR}(hp:Pu P (ev l) op v)(next:R (λh=>aO P ds rest (act n ((d,v)::l) D pm ro) h K) B w0 kl F)(hn:Nat.blt d n=true:=by rfl)(hg:bJ l g=true:=by rfl):
 R (λh=>aO P ds (⟨⟨some d,g,op⟩,[]⟩::rest) (act n l D pm ro) h K) B w0 kl F:=(dx hn hg hp).h next
variable{x y:aB}
def qA{e:aM}{size bytes:Nat}{zero:ae ah}(m:Nat)(hm:m*bytes<=1073741824/\m*size<=1073741824/\m<=1073741824)
 (next:∀b,R (λh=>aO P ds rest (act n ((d,.slice (some ⟨b,0,some 0⟩) m m)::l) D pm ro) h K) B w0 (pt b (.cells (zeros zero m))::kl) F)
 (hx:ev l x=.int .i64 (m:Int):=by rfl) (hy:ev l y=.int .i64 (m:Int):=by rfl) (hn:Nat.blt d n=true:=by rfl) (hg:bJ l g=true:=by rfl):
 R (λh=>aO P ds (⟨⟨some d,g,.xS e size bytes zero x y⟩,[]⟩::rest) (act n l D pm ro) h K) B w0 kl F:=(aiP hn hg hx hy hm).h next
variable{b o:Nat}{cs:ae ah}
def jN{cs':ae ah}(hs:cs.set o v=cs')(ho:o<cs.length)
 (next:R (λh=>aO P ds rest (act n l D pm ro) h K) B w0 (pt b (.cells cs')::kl') F)
 (hx:ev l x=.pointer (some ⟨b,o,none⟩):=by rfl) (hy:ev l y=v:=by rfl) (hv:cellsOf v=some [v]:=by rfl) (hk:aD (pt b (.cells cs)) kl kl':=by exact dG) (hg:bJ l g=true:=by rfl):
 R (λh=>aO P ds (⟨⟨none,g,.store 1 x y⟩,[]⟩::rest) (act n l D pm ro) h K) B w0 kl F:=by subst hs;exact(aiT hg hx hy hv hk ho).h next
def oN(v:ah)(hv:cs[o]? =some v)
 (next:R (λh=>aO P ds rest (act n ((d,v)::l) D pm ro) h K) B w0 kl F)
 (hx:ev l x=.pointer (some ⟨b,o,none⟩):=by rfl) (hk:aD (pt b (.cells cs)) kl kl':=by exact dG) (hn:Nat.blt d n=true:=by rfl) (hg:bJ l g=true:=by rfl):
 R (λh=>aO P ds (⟨⟨some d,g,.fG x⟩,[]⟩::rest) (act n l D pm ro) h K) B w0 kl F:=(aiU hn hg hx hk hv).h next
def ajr{α:Type}(E:Enc α){x lo:aB}{v:ah}{q:α}{qs:ae α}{size:Nat}
 (next:∀ad,R (λh=>aO P ds rest (act n ((d,.slice ad qs.length qs.length)::l) D pm ro) h K) B w0 (ap E (.slice ad qs.length qs.length) qs::kl') F)
 (hx:ev l x=v:=by conv=>lhs;whnf) (hlo:ev l lo=.int .i64 1:=by rfl) (hk:aD (ap E v (q::qs)) kl kl':=by exact dG) (hz:E.n=size:=by rfl) (hn:Nat.blt d n=true:=by rfl) (hg:bJ l g=true:=by rfl):
 R (λh=>aO P ds (⟨⟨some d,g,.FT size x (some lo) none none⟩,[]⟩::rest) (act n l D pm ro) h K) B w0 kl F:=(ai0 hn hg hx hlo hz hk).h next
def Zj{i:aB}{xs:ae Int}(k:Nat)(z:Int){kk:IntKind}{d2:Nat}(hz:xs[k]? =some z)
 (next:∀b o,R (λh=>aO P ds rest (act n ((d2,.int .i64 z)::(d,.pointer (some ⟨b,o,none⟩))::l) D pm ro) h K) B w0 kl F)
 (hx:ev l x=v:=by conv=>lhs;whnf) (hi:ev l i=.int kk (k:Int):=by rfl) (hk:aD (ap aj v xs) kl kl':=by exact dG) (hn:Nat.blt d n=true:=by rfl) (hn2:Nat.blt d2 n=true:=by rfl):
 R (λh=>aO P ds (⟨⟨some d,none,.jw 1 x i⟩,[]⟩::⟨⟨some d2,none,.fG (.tmp d)⟩,[]⟩::rest) (act n l D pm ro) h K) B w0 kl F:=(ai1 hn rfl hn2 (λ_=>rfl) hx hi hk hz).h next
end
end
end Go.Ideal
namespace Go.Ideal
open Go.ChangeShapes Go.WideShapes Go.ChangeAt Go.RowKit
variable {P:Program}
def jX{α:Type}(P:Program)(t:aM)(E:Enc α)(G:α->Prop):Prop:=∀(w:Wd) (H:Type) (d:DataW H) (cs:ae ah),(∀i,i<w.h.next->w.z i)->jq P w.h t cs d->∃a y,cs=E.pat a y/\(∀f∈E.fs a y,f.p w)/\G a
def mK(n:Int):Prop:= -9223372036854775808<=n/\n<9223372036854775808
def tu{α:Type}(G:α->Prop)(xs:ae α):Prop:=xs.length<9223372036854775808/\∀x∈xs,G x
variable{t:aM}
def ajs(ht:P.underlying t=some (.int .i64)):jX P t aj mK:=λw H d cs hz r=>by
 obtain⟨n,rfl,_,h⟩:=r.oh ht;refine⟨n,(),rfl,(λf hf=>by cases hf),?_⟩;simp only[Lit.wf,IntKind.min,IntKind.signed,IntKind.bits,gV]at h;simp at h;exact⟨s6,s6⟩
def ajt(ht:P.underlying t=some .string):jX P t ko (λ_=>True):=λw H d cs hz r=>by
 obtain⟨n,rfl,_⟩:=r.Eh ht;exact⟨n,(),rfl,(λf hf=>by cases hf),trivial⟩
variable{α:Type}
def AQ{e:aM}{E:Enc α}{G:α->Prop}(ht:P.underlying t=some (.slice e))(hn:P.cellsOf e=E.n)(he:jX P e E G):jX P t (aA E) (tu G):=λw H d cs hz r=>by
 rcases r.oK ht with⟨rfl,_⟩|⟨i,n,c,cells,els,rest,rfl,_,hnc,hl,hcl,hel⟩
 .exact⟨[],_,rfl,(λf hf=>by rw[bR.1 hf];exact .inl ⟨rfl,none,0,rfl,trivial⟩),s7,λx hx=>by cases hx⟩
 .have hmax:maxLen=9223372036854775807:=by decide
  obtain⟨xs,hx1,hx2⟩:=Oa (p:=λk a=>(∃y,(cells.drop (k*E.n)).take E.n=E.pat a y/\∀f∈E.fs a y,f.p w)/\G a) n (λk hk=>by
   have hk':k<els.length:=s6
   have:=hel k els[k] (bN hk');rw[hn]at this;obtain⟨a,y,q1,q2,q3⟩:=he w H _ _ hz this;exact⟨a,⟨y,q1,q2⟩,q3⟩)
  refine⟨xs,_,rfl,λf hf=>?_,s6,λx hx=>?_⟩
  .rw[bR.1 hf];rcases hcl with h0|hcl
   .left;have:xs=[]:=pU.1 s6;exact⟨this,some ⟨i,0,some 0⟩,c,by rw[h0],Or.inl rfl⟩
   .right;refine⟨i,0,0,c,cells,⟨by rw[hx1],by rw[hx1];exact hnc.1,.inl rfl⟩,⟨hz i hcl.1,hcl.2⟩,λk x hk=>?_⟩;obtain⟨⟨y,q1,q2⟩,_⟩:=hx2 k x hk;refine⟨y,λj u hj=>?_,q2⟩;rw[<- q1,wP]at hj;split at hj
    .rw[rH]at hj;rw[gq];exact hj
    .cases hj
  .obtain⟨k,hk⟩:=gT hx;exact(hx2 k x hk).2
inductive EB(P:Program):{α:Type}->List Field->Enc α->(α->Prop)->Prop
 |nil:EB P [] Zd (λ_=>True)
 |cons {α β:Type} {f:Field} {fs:List Field} {E1:Enc α} {E2:Enc β} {G1:α->Prop} {G2:β->Prop} (h:jX P f.type E1 G1) (hn:P.cellsOf f.type=E1.n) (t:EB P fs E2 G2):EB P (f::fs) (Zc E1 E2) (λx=>G1 x.1/\G2 x.2)
def EB.Ob{w:Wd}{H:Type}(hz:∀i,i<w.h.next->w.z i):∀{α:Type} {fs:ae Field} {E:Enc α} {G:α->Prop},EB P fs E G->∀(o0:Nat) (cs:ae ah) (ds:ae (DataW H)),cs.length=(fs.map λf=>P.cellsOf f.type).sum->ds.length=fs.length->
 fs.map (·.offset)=sums o0 (fs.map λf=>P.cellsOf f.type)->(∀(j:Nat) f d,fs[j]? =some f->ds[j]? =some d->jq P w.h f.type ((cs.drop (f.offset - o0)).take (P.cellsOf f.type)) d)->∃a y,cs=E.pat a y/\(∀f∈E.fs a y,f.p w)/\G a
 |_,_,_,_,.nil,o0,cs,ds,h1,h2,h3,h4=>⟨(),(),pU.1 tG,(λf hf=>by cases hf),trivial⟩
 |_,_,_,_,.cons (f:=f) (fs:=fs) (E1:=E1) (E2:=E2) h hn t,o0,cs,ds,h1,h2,h3,h4=>by
  match ds,h2 with
  |d::ds,h2=>
   simp only[iX,FJ,sums,List.cons.injEq]at h1 h3;obtain⟨ho,h3⟩:=h3;have r0:=h4 0 f d rfl rfl;rw[ho,um,za]at r0;obtain⟨a,y,q1,q2,q3⟩:=h w H d _ hz r0;obtain⟨b,z,u1,u2,u3⟩:=EB.Ob hz t (o0+P.cellsOf f.type) (cs.drop (P.cellsOf f.type)) ds (by grind) wk h3 (λj g e hg he=>by
    exact ew)
   refine⟨(a,b),(y,z),?_,?_,q3,u3⟩
   .show cs=E1.pat a y++E2.pat b z;rw[<- q1,<- u1,l5]
   .exact pP
def zF{fs:Array Field}{E:Enc α}{G:α->Prop}(ht:P.underlying t=some (.struct fs))(ho:fs.toList.map (·.offset)=sums 0 (fs.toList.map λf=>P.cellsOf f.type))
 (hs:P.cellsOf t=(fs.toList.map λf=>P.cellsOf f.type).sum) (h:EB P fs.toList E G):jX P t E G:=λw H d cs hz r=>by
 obtain⟨ds,_,h1,h2,h3⟩:=r.YX ht;refine h.Ob hz 0 cs ds (by rw[h1,hs]) wk ho λj f d hf hd=>?_
 grind
def jX.conv{β:Type}{E:Enc α}{E':Enc β}{G:α->Prop}{G':β->Prop}(h:jX P t E G)(hc:∀a y,G a->∃b z,E.pat a y=E'.pat b z/\E.fs a y=E'.fs b z/\G' b):jX P t E' G':=λw H d cs hz r=>by
 obtain⟨a,y,q1,q2,q3⟩:=h w H d cs hz r;obtain⟨b,z,e1,e2,e3⟩:=hc a y q3
 grind
section
variable {H:Type}
variable{α:Type}{w:Wd}{t:aM}{v:ah}{d:DataW H}
def zC.SX{E:Enc α}{G:α->Prop}(h:zC P w t v d)(hz:∀i,i<w.h.next->w.z i)(ha:kQ P t=true)(hr:jX P t E G):∃a y,v=.agg ⟨E.pat a y⟩/\(∀f∈E.fs a y,f.p w)/\G a:=by
 exact me
def zC.oneG{E:Enc α}{G:α->Prop}(h:zC P w t v d)(hz:∀i,i<w.h.next->w.z i)(ha:kQ P t=false)(hr:jX P t E G):∃a y,E.pat a y=[v]/\(∀f∈E.fs a y,f.p w)/\G a:=by
 exact mc
end
end Go.Ideal
namespace Go.Ideal
variable {P:Program}
def fJ.Og{w:Wd}{A:OA}:∀{kl kl':ae OA} {S:ae Nat},aD A kl kl'->fJ w (A::kl') S->∃S',fJ w kl S'/\S.Perm S'
 |_,_,S,.here,h=>⟨S,h,.refl _⟩
 |_,_,_,.there s,⟨S1,S2,h1,⟨T1,T2,h2,h3,e2⟩,e⟩=>by
  obtain⟨S',q1,q2⟩:=fJ.Og s ⟨S1,T2,h1,h3,rfl⟩;refine⟨T1++S',⟨T1,S',h2,q1,rfl⟩,?_⟩
  grind
def aD.at{α:Type}{a:α}:∀{l:ae α} {k:Nat},l[k]? =some a->aD a l (l.eraseIdx k)
 |[],k,h=>by simp at h
 |b::l,0,h=>by
  simp at h;subst h;exact .here
 |b::l,k+1,h=>.there (aD.at tj)
def SY{α:Type}(a:α):∀(l:ae α) (k:Nat),(l.set k a).eraseIdx k=l.eraseIdx k
 |[],k=>rfl
 |b::l,0=>rfl
 |b::l,k+1=>by simp[SY a l k]
def R.perm{B:ae Nat}{w0:Wd}{kl dS:ae OA}{F:ae aI}{Q:IH->Prop}(hp:∀w S,fJ w kl S->∃S',fJ w dS S'/\S.Perm S')(h:R Q B w0 dS F):R Q B w0 kl F:=λw s=>by
 obtain⟨S,h1,h2,h3⟩:=s.own;exact h w ⟨s.agree,s.le,s.fF,(by grind),s.facts⟩
abbrev Oh(r:Nat):Deferred:={target:=.collected r,args:= #[]}
def EC(rs:ae Nat):OA:=⟨λw S=>fJ w (rs.map λr=>pt r (.jJ true)) S,λa h hp=>fJ.loc a h hp⟩
section
variable {B:ae Nat} {w0:Wd} {kl kl' bA k1 k2:ae OA} {F:ae aI} {K:KO} {n:Nat} {l:qr} {D:ae Deferred} {pm:az FrameMode} {ro:az Nat} {Q:IH->Prop}
def Zk(h:R Q B w0 (EC []::kl) F):R Q B w0 kl F:=.perm (dS:=EC []::kl) (λw S hS=>⟨S,⟨[],S,rfl,hS,rfl⟩,.refl _⟩) h
variable{rs:ae Nat}
def S9{r:Nat}(hk:aD (EC rs) kl k1:=by exact dG)(hr:aD (pt r (.jJ true)) k1 k2:=by exact dG)(h:R Q B w0 (EC (r::rs)::k2) F):R Q B w0 kl F:=
 .perm (λw S hS=>by
  obtain⟨S1,S2,q1,q2,hp⟩:=hS.ku (.cons hk (.cons hr .nil));obtain⟨T1,T2,u1,⟨T3,T4,u2,u3,e3⟩,e⟩:=q1;subst u3 e3 e;refine⟨(T3++T1)++S2,⟨T3++T1,S2,⟨T3,T1,u2,u1,rfl⟩,q2,rfl⟩,?_⟩
  grind) h
def kG.ofMap:∀(rs:ae Nat) (kl:ae OA),kG ((rs.map λr=>pt r (.jJ true))++kl) (rs.map Oh) kl
 |[],kl=>.nil
 |r::rs,kl=>.cons .here (kG.ofMap rs kl)
def Ta{Y:Type}{o:Out}{cf:iJ}{vs:ae ah}{val:Y->ah}{k1:Y->ae OA}{fs:Y->ae aI}{pr:Y->Prop}{dS:ae OA}(y:Y)(hc:aD (EC rs) kl dS:=by exact dG)
 (hr:RS l dS cf.results vs:=by exact zB) (hv:qX vs=val y) (hp:pr y)
 (hk:aJ (k1 y) dS bA:=by exact lH) (hF:Sub (fs y) F:=by exact kV)
 (ho:o=.normal\/o=.ret:=by exact Ex):R (λh=>rV P cf (Left B w0 val k1 fs pr) o (act n l (rs.map Oh) none ro) h) B w0 kl F:=
 .perm (λw S hS=>by
  obtain⟨S',⟨T1,T2,u1,u2,e⟩,hp⟩:=hS.fB hc;exact⟨S',by rw[e];exact fJ.app u1 u2,hp⟩) (Zf y (kG.ofMap rs dS) hr hv hp hk hF ho)
def Tc{X:Type}(n:Nat)(D:X->ae Deferred)(pm:az FrameMode)(ro:az Nat)(B:ae Nat)(w0:Wd)(m:X->Nat)(L:X->qr)(KL:X->ae OA)(FF:X->ae aI)(inv:X->Prop)
 (l0:qr) (bA:ae OA) (F0:ae aI):Nat->bE->IH->Prop:=λr a h=>
 ∃(x:X) (w:Wd),r=m x/\a=act n (L x++l0) (D x) pm ro/\w.h=h/\St B w0 (KL x++bA) (FF x++F0) w/\inv x
variable{X:Type}
def Zl{c:dD}{l0:qr}{L2:X->qr}{uM:X->ae OA}{uN:X->ae aI}(DX:X->ae Deferred)(m:X->Nat)(L:X->qr)(KL:X->ae OA)(FF:X->ae aI)(inv:X->Prop)(x0:X)(hi:inv x0)
 (hD:DX x0=D:=by rfl)
 (h0:vV l (L x0) l0:=by exact JY) (hl:sub (L x0++l0) l:=by exact Ew)
 (hk:aJ (KL x0) kl bA:=by exact lH) (hF:Sub (FF x0) F:=by exact kV)
 (hak:∀x,dz (KL x) bA (uM x):=by exact qb) (qZ:∀x,dz (FF x) F (uN x):=by exact qb)
 (hal:∀x,dz (L x) l0 (L2 x):=by exact qb)
 (body:∀x,inv x->R (λh=>EV P c (act n (L2 x) (DX x) pm ro) h (vT (Tc n DX pm ro B w0 m L KL FF inv l0 bA F) (m x) K)) B w0 (uM x) (uN x)):
 R (λh=>EV P (.loop c) (act n l D pm ro) h K) B w0 kl F:=by
 intro w s;subst hD;refine Si (Nc hl) ?_;refine YF (Tc n DX pm ro B w0 m L KL FF inv l0 bA F) ?_ (m x0) _ _ ⟨x0,w,rfl,rfl,rfl,(s.ku hk).add (λf hf=>s.facts f (hF.mem f hf)),hi⟩;rintro r a h ⟨x,w',rfl,rfl,rfl,s',hx⟩;have:=body x hx;rw[<- (hak x).eq,<- (qZ x).eq,<- (hal x).eq]at this;exact this w' s'
def J4{DX:X->ae Deferred}{m:X->Nat}{L:X->qr}{KL:X->ae OA}{FF:X->ae aI}{inv:X->Prop}{l0:qr}{CF dS:ae OA}{F0:ae aI}{m0:Nat}(x:X)(hm:m x<m0)(hi:inv x)
 (hD:DX x=D:=by rfl)
 (hl:sub (L x++l0) l:=by exact Ew) (ha:dz (KL x) bA CF:=by exact Gy)
 (hk:aJ CF kl dS:=by exact lH) (hF:Sub (FF x) F:=by exact kV)
 (yx:pz F0 F:=by exact SN):
 R (λh=>vT (Tc n DX pm ro B w0 m L KL FF inv l0 bA F0) m0 K .normal (act n l D pm ro) h) B w0 kl F:=by
 intro w s;subst hD;refine YL (m x) hm hl ⟨x,w,rfl,rfl,rfl,?_,hi⟩;have s':=(s.ku hk).drop;rw[<- ha.eq]at s';exact⟨s'.agree,s'.le,s'.fF,s'.own,λf hf=>(fU.1 hf).elim (λhf=>s.facts f (hF.mem f hf)) (λhf=>s.facts f (yx.mem f hf))⟩
def zG{α:Type}(E:Enc α)(vs:ae ah)(xss:ae (ae α)):ae OA:=(vs.zip xss).map λp=>ap E p.1 p.2
def Oi{α:Type}(E:Enc α)(b:Nat)(xss:ae (ae α)):OA:=
 ⟨λw S=>∃vs:ae ah,vs.length=xss.length/\fJ w (pt b (.cells vs)::zG E vs xss) S,λa h ⟨vs,h1,h2⟩=>⟨vs,h1,fJ.loc a h h2⟩⟩
def Zm{α:Type}(E:Enc α)(vs:ae ah)(xss:ae (ae α))(k:Nat):OA:=
 ⟨λw S=>fJ w ((zG E vs xss).eraseIdx k) S,λa h hp=>fJ.loc a h hp⟩
variable{α:Type}
def aju(E:Enc α){vs:ae ah}{xss:ae (ae α)}{k:Nat}{v:ah}{xs:ae α}(hv:vs[k]? =some v)(hx:xss[k]? =some xs):(zG E vs xss)[k]? =some (ap E v xs):=by
 simp[zG,List.zip,List.getElem?_zipWith,hv,hx]
def ajv(E:Enc α){b:Nat}{xss:ae (ae α)}{k:Nat}{xs:ae α}(hx:xss[k]? =some xs)(hk:aD (Oi E b xss) kl kl':=by exact dG)
 (h:∀(vs:ae ah) (v:ah),vs.length=xss.length->vs[k]? =some v->R Q B w0 (pt b (.cells vs)::ap E v xs::Zm E vs xss k::kl') F):R Q B w0 kl F:=λw s=>by
 obtain⟨S,⟨S1,S2,⟨vs,h1,h2⟩,q2,e⟩,hnd,hall⟩:=(s.fB hk).own;subst e;have hlt:=(bz.1 hx).1;have hv:vs[k]? =some (vs[k]'(s6)):=bN s6;refine h vs _ h1 hv w ?_;have hg:=aju E hv hx;obtain⟨T1,T2,u1,u2,e⟩:=h2;obtain⟨T3,⟨T4,T5,u4,u5,e5⟩,u6⟩:=u2.fB (aD.at hg);subst e5 e;have hperm:((T1++T2)++S2).Perm (T1++(T4++(T5++S2))):=by
  exact oa
 exact⟨s.agree,s.le,s.fF,⟨T1++(T4++(T5++S2)),⟨T1,_,u1,⟨T4,_,u4,⟨T5,S2,u5,q2,rfl⟩,rfl⟩,rfl⟩,hperm.nodup hnd,λi hi=>hall i (hperm.mem_iff.2 hi)⟩,s.facts⟩
def ajw(E:Enc α){vs:ae ah}{xss:ae (ae α)}{k:Nat}{v:ah}{xs:ae α}:zG E (vs.set k v) (xss.set k xs)=(zG E vs xss).set k (ap E v xs):=by
 apply iQ;intro j;simp only[zG,List.zip]
 grind
def ajx(E:Enc α){b:Nat}{xss:ae (ae α)}{vs:ae ah}{k:Nat}{v:ah}{xs:ae α}(hlen:vs.length=xss.length)(hk:k<xss.length)(h1:aD (pt b (.cells (vs.set k v))) kl k1:=by exact dG)
 (h2:aD (ap E v xs) k1 k2:=by exact dG) (h3:aD (Zm E vs xss k) k2 bA:=by exact dG) (h:R Q B w0 (Oi E b (xss.set k xs)::bA) F):R Q B w0 kl F:=
 .perm (λw S hS=>by
  obtain⟨S1,S2,q1,q2,hp⟩:=hS.ku (.cons h1 (.cons h2 (.cons h3 .nil)));obtain⟨T1,U1,u1,⟨T2,U2,u2,⟨T3,U3,u3,u4,e3⟩,e2⟩,e1⟩:=q1;subst u4 e3 e2 e1;have hl:((zG E vs xss).set k (ap E v xs))[k]? =some (ap E v xs):=by
   rw[rM,if_pos rfl,if_pos (by simp[zG];omega)]
  obtain⟨V,v1,v2⟩:=fJ.Og (aD.at hl) ⟨T2,T3,u2,by rw[SY];exact u3,rfl⟩;refine⟨(T1++V)++S2,⟨T1++V,S2,⟨vs.set k v,by simp[hlen],⟨T1,V,u1,by rw[ajw];exact v1,rfl⟩⟩,q2,rfl⟩,hp.trans ?_⟩
  grind) h
def ajy(E:Enc α){b m:Nat}(hk:aD (pt b (.cells (List.replicate m (.slice none 0 0)))) kl kl':=by exact dG)(h:R Q B w0 (Oi E b (List.replicate m ([]:ae α))::kl') F):R Q B w0 kl F:=
 .perm (λw S hS=>by
  obtain⟨S',⟨T1,T2,u1,u2,e⟩,hp⟩:=hS.fB hk;refine⟨S',⟨T1,T2,⟨List.replicate m (.slice none 0 0),s7,⟨T1,[],u1,?_,s7⟩⟩,u2,e⟩,hp⟩;have:∀m,fJ w (zG E (List.replicate m (.slice none 0 0)) (List.replicate m [])) []:=by
   intro m;induction m with
   |zero=>rfl
   |succ m ih=>exact⟨[],[],.inl ⟨rfl,rfl,rfl⟩,ih,rfl⟩
  exact this m) h
end
end Go.Ideal
namespace Go.Ideal
variable {P:Program}
def Td{X:Type}(n:Nat)(D:ae Deferred)(pm:az FrameMode)(ro:az Nat)(B:ae Nat)(w0:Wd)(L:X->qr)(KL:X->ae OA)(FF:X->ae aI)(inv:X->Prop)(l0:qr)(bA:ae OA)(F0:ae aI)(K:KO):KO:=λo a h=>
 match o with
 | .normal=>∃(x:X) (l:qr) (w:Wd),a=act n l D pm ro/\sub (L x++l0) l/\w.h=h/\St B w0 (KL x++bA) (FF x++F0) w/\inv x
 |o=>K o a h
section
variable {B:ae Nat} {w0:Wd} {kl kl' bA k1 k2:ae OA} {F:ae aI} {K:KO} {n:Nat} {l:qr} {D:ae Deferred} {pm:az FrameMode} {ro:az Nat} {Q:IH->Prop}
section
variable {X:Type} {n2:Nat} {D2:ae Deferred} {pm2:az FrameMode} {ro2:az Nat} {B2:ae Nat} {w2:Wd} {L:X->qr} {KL:X->ae OA} {FF:X->ae aI} {inv:X->Prop} {l0:qr} {F0:ae aI}
def ajB{a:bE}{ch:ae PanicEntry}(h:R (λh=>K (.panic ch) a h) B w0 kl F):R (λh=>Td n2 D2 pm2 ro2 B2 w2 L KL FF inv l0 bA F0 K (.panic ch) a h) B w0 kl F:=h
def Oj{CF dS:ae OA}(x:X)(hi:inv x)(hl:sub (L x++l0) l:=by exact Ew)
 (ha:dz (KL x) bA CF:=by exact Gy)
 (hk:aJ CF kl dS:=by exact lH) (hF:Sub (FF x) F:=by exact kV)
 (yx:pz F0 F:=by exact SN):
 R (λh=>Td n D pm ro B w0 L KL FF inv l0 bA F0 K .normal (act n l D pm ro) h) B w0 kl F:=λw s=>by
 refine⟨x,l,w,rfl,hl,rfl,?_,hi⟩;have s':=(s.ku hk).drop;rw[<- ha.eq]at s';exact⟨s'.agree,s'.le,s'.fF,s'.own,λf hf=>(fU.1 hf).elim (λhf=>s.facts f (hF.mem f hf)) (λhf=>s.facts f (yx.mem f hf))⟩
end
def Zn{X:Type}{x y:dD}{l0:qr}{L2:X->qr}{uM:X->ae OA}{uN:X->ae aI}(ks:ae Nat)(L:X->qr)(KL:X->ae OA)(FF:X->ae aI)(inv:X->Prop)
 (hx:R (λh=>EV P x (act n l D pm ro) h (Td n D pm ro B w0 L KL FF inv l0 bA F K)) B w0 kl F)
 (hy:∀z,inv z->R (λh=>EV P y (act n (L2 z) D pm ro) h K) B w0 (uM z) (uN z))
 (h0:vV l (ks.map λk=>(k,xR)) l0:=by exact JY)
 (hal:∀x,dz (L x) l0 (L2 x):=by exact qb)
 (hak:∀x,dz (KL x) bA (uM x):=by exact qb) (qZ:∀x,dz (FF x) F (uN x):=by exact qb):
 R (λh=>EV P x (act n l D pm ro) h (Cu P y K)) B w0 kl F:=λw s=>by
 refine M7 (hx w s) _ ?_;intro o a h hm;cases o with
 |normal=>
  obtain⟨z,l',w',rfl,hl,rfl,s',hz⟩:=hm;have:=hy z hz;rw[<- (hak z).eq,<- (qZ z).eq,<- (hal z).eq]at this;exact Si (Nc hl) (this w' s')
 |exit j=>exact hm
 |ret=>exact hm
 |panic ch=>exact hm
end
end Go.Ideal
namespace Go.Ideal
variable {P:Program}
def Zo{n k:Nat}(h:k<=n):upTo n (.int .i64 (k:Int))=some k:=by
 show cond (Nat.ble k n) (some k) none=_;rw[show Nat.ble k n=true from by rw[vH];exact h];rfl
section
variable {B:ae Nat} {w0:Wd} {kl kl' bA k1 k2:ae OA} {F:ae aI} {K:KO} {n:Nat} {l:qr} {D:ae Deferred} {pm:az FrameMode} {ro:az Nat} {Q:IH->Prop} {ds:ae Tmp} {rest:ae bV} {d:Nat} {g:az (Tmp×Bool)}
end
