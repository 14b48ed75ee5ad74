/- Part. -/
import Derived.Test.YtoilpafpgndilaaGreatIdealIF
set_option linter.all false
namespace Go.Ideal
variable{p:Prop}
def o9(h:p:=by repeat (first|exact Sub.nil|(apply Sub.cons;(focus ((repeat (first|with_reducible exact cB .. |with_reducible apply cO));first|done|fail)))|exact lT.sub (by repeat (first|with_reducible exact lT.here|with_reducible apply lT.cons|with_reducible apply lT.app)))):p:=h
def pg(h:p:=by repeat (first|exact aI.nil|(apply aI.cons;(focus (repeat (first|with_reducible exact az.here|with_reducible apply az.there|with_reducible apply az.app))))|with_reducible exact aI.all _|with_reducible exact aI.self _ _|with_reducible apply aI.there)):p:=h
def afv(h:p:=by repeat (first|with_reducible exact az.here|with_reducible apply az.there|with_reducible apply az.app)):p:=h
def Cz(h:p:=by repeat (first|exact RS.nil|(apply RS.tmp;(conv=>lhs;whnf))|(apply RS.cell1;(focus exact rfl);(focus (repeat (first|with_reducible exact az.here|with_reducible apply az.there|with_reducible apply az.app)));(conv=>lhs;whnf))|(apply RS.qA;(focus exact rfl);(focus (repeat (first|with_reducible exact az.here|with_reducible apply az.there|with_reducible apply az.app)));(conv=>lhs;whnf)))):p:=h
def vW(h:p:=by(repeat (first|with_reducible exact cB .. |with_reducible apply cO));first|done|fail):p:=h
variable {P:Program}
section
variable {B:kI Nat} {w0:Wd} {kl:kI OA} {F:kI aO} {K:KO} {ds:kI Tmp} {rest:kI bV} {n:Nat} {l:qr} {D:kI Deferred} {pm:x8 FrameMode} {ro:x8 Nat} {d:Nat} {g:x8 (Tmp×Bool)}
variable{x i:aaB}{v:vI}{k:Nat}{kk:IntKind}
def aco{xs:kI Int}(hn:Nat.blt d n=true)(hg:cZ l g=true)(hx:ev l x=v)(hi:ev l i=.int kk (k:Int))(hf:ai ae v xs∈F)(h1:k<xs.length):
 dQ (R (λh=>aH P ds (⟨⟨some d,g,.nQ 1 x i⟩,[]⟩::rest) (act n l D pm ro) h K) B w0 kl F)
  (∀b o z,xs[k]? =some z->R (λh=>aH P ds rest (act n ((d,.pointer (some ⟨b,o,none⟩))::l) D pm ro) h K) B w0 kl (gY b o [.int .i64 z]::F)):=
 ⟨λr=>(Sc hn hg hx hi hf z7 z7).h λb o z hz=>r b o z Ge⟩
def acp{xs:kI Bool}(hn:Nat.blt d n=true)(hg:cZ l g=true)(hx:ev l x=v)(hi:ev l i=.int kk (k:Int))(hf:ai R8 v xs∈F)(h1:k<xs.length):
 dQ (R (λh=>aH P ds (⟨⟨some d,g,.nQ 1 x i⟩,[]⟩::rest) (act n l D pm ro) h K) B w0 kl F)
  (∀b o z,xs[k]? =some z->R (λh=>aH P ds rest (act n ((d,.pointer (some ⟨b,o,none⟩))::l) D pm ro) h K) B w0 kl (gY b o [.bool z]::F)):=
 ⟨λr=>(Sd hn hg hx hi hf z7 z7).h λb o z hz=>r b o z Ge⟩
end
inductive Fill(ρ:Operand->Value):List Value->List (Nat×Nat×Operand)->List Value->Prop
 |nil {cs:List Value}:Fill ρ cs [] cs
 |cons {cs vs cs' r:List Value} {off size:Nat} {x:Operand} {parts:List (Nat×Nat×Operand)} {v:Value} (h0:ρ x=v) (h1:cellsOf v=some vs) (h2:Nat.beq (iL vs) size=true) (h3:jV cs off vs=some cs') (t:Fill ρ cs' parts r):Fill ρ cs ((off,size,x)::parts) r
def Fill.eq{ρ:aaB->vI}:∀{zero:kI vI} {parts:kI (Nat×Nat×aaB)} {cs:kI vI},Fill ρ zero parts cs->rA ρ zero parts=some cs
 |_,_,_,.nil=>rfl
 |cs0,_,_,.cons (off:=off) (size:=size) (x:=x) (parts:=parts) h0 h1 h2 h3 t=>by
  have ih:=t.eq;show(match cellsOf (ρ x)with
   |none=>none
   |some vs=>cond (Nat.beq (iL vs) size) (match jV cs0 off vs with
    |some cs=>rA ρ cs parts
    |none=>none) none)=_
  simp only[h0,h1,h2,h3,cond,ih]
variable{B:kI Nat}{w0:Wd}{kl:kI OA}{F:kI aO}{K:KO}{ds:kI Tmp}{rest:kI bV}{n d:Nat}{l:qr}{D:kI Deferred}{pm:x8 FrameMode}{ro:x8 Nat}{g:x8 (Tmp×Bool)}
def acr
 {t:adH} {len:Nat} {zero cs:kI vI} {parts:kI (Nat×Nat×aaB)} (hn:Nat.blt d n=true) (hg:cZ l g=true) (hx:Fill (ev l) zero parts cs):
 dQ (R (λh=>aH P ds (⟨⟨some d,g,.wU t len zero parts⟩,[]⟩::rest) (act n l D pm ro) h K) B w0 kl F)
 (∀b,R (λh=>aH P ds rest (act n ((d,.slice (some ⟨b,0,some 0⟩) len len)::l) D pm ro) h K) B w0 (pt b (.cells cs)::kl) F):=abZ hn hg hx.eq
def acs
 {zero cs:kI vI} {parts:kI (Nat×Nat×aaB)} (hn:Nat.blt d n=true) (hg:cZ l g=true) (hx:Fill (ev l) zero parts cs):
 dQ (R (λh=>aH P ds (⟨⟨some d,g,.build zero parts⟩,[]⟩::rest) (act n l D pm ro) h K) B w0 kl F) (R (λh=>aH P ds rest (act n ((d,.agg ⟨cs⟩)::l) D pm ro) h K) B w0 kl F):=fA hn hg (aby hx.eq)
variable{α:Type}
def aS{E:Enc α}{v:vI}{xs:kI α}{Q:IH->Prop}(hf:ai E v xs∈F)(h:∀a c,v=.slice a xs.length c->R Q B w0 kl F):R Q B w0 kl F:=λw s=>by
 obtain⟨a,c,e⟩:=Sb (s.facts _ hf);exact h a c e w s
section
variable {B:kI Nat} {w0:Wd} {kl:kI OA} {F:kI aO} {K:KO} {ds:kI Tmp} {rest:kI bV} {n:Nat} {l:qr} {D:kI Deferred} {pm:x8 FrameMode} {ro:x8 Nat} {t1 t2:Nat}
def lU{e:Bool}(h1:e=false->R (λh=>aH P ds rest (act n ((t1,.bool false)::(t2,.bool false)::l) D pm ro) h K) B w0 kl F)(h2:e=true->R (λh=>aH P ds rest (act n ((t1,.bool true)::(t2,.bool true)::l) D pm ro) h K) B w0 kl F):
 R (λh=>aH P ds rest (act n ((t1,.bool e)::(t2,.bool e)::l) D pm ro) h K) B w0 kl F:=by
 cases e
 .exact h1 rfl
 .exact h2 rfl
variable{p:Prop}
def oF{_:Decidable p}(h1:¬p->R (λh=>aH P ds rest (act n ((t1,.bool false)::(t2,.bool false)::l) D pm ro) h K) B w0 kl F)(h2:p->R (λh=>aH P ds rest (act n ((t1,.bool true)::(t2,.bool true)::l) D pm ro) h K) B w0 kl F):
 R (λh=>aH P ds rest (act n ((t1,.bool (decide p))::(t2,.bool (decide p))::l) D pm ro) h K) B w0 kl F:=
 lU (λe=>h1 (nC e)) (λe=>h2 (iI e))
def nK{_:Decidable p}(h1:p->R (λh=>aH P ds rest (act n ((t1,.bool false)::(t2,.bool false)::l) D pm ro) h K) B w0 kl F)(h2:¬p->R (λh=>aH P ds rest (act n ((t1,.bool true)::(t2,.bool true)::l) D pm ro) h K) B w0 kl F):
 R (λh=>aH P ds rest (act n ((t1,.bool (!decide p))::(t2,.bool (!decide p))::l) D pm ro) h K) B w0 kl F:=
 lU (λe=>h1 A3) (λe=>h2 A3)
end
section
variable {B:kI Nat} {w0:Wd} {kl kl':kI OA} {F:kI aO} {K:KO} {ds:kI Tmp} {rest:kI bV} {n:Nat} {l:qr} {D:kI Deferred} {pm:x8 FrameMode} {ro:x8 Nat} {d:Nat} {g:x8 (Tmp×Bool)}
variable{x:aaB}{v:vI}{cs:kI vI}
def acu{t:adH}(hn:Nat.blt d n=true)(hg:cZ l g=true)(hv:ev l x=v)(hx:cellsOf v=some cs):dQ (R (λh=>aH P ds (⟨⟨some d,g,.box x t⟩,[]⟩::rest) (act n l D pm ro) h K) B w0 kl F)
 (∀b,R (λh=>aH P ds rest (act n ((d,.pointer (some ⟨b,0,none⟩))::l) D pm ro) h K) B w0 (pt b (.cells cs)::kl) F):=abY hn hg (by rw[hv];exact hx)
def acv{y:aaB}{b o m:Nat}{vs c:kI vI}(hg:cZ l g=true)(hx:ev l x=.pointer (some ⟨b,o,none⟩))(hw:ev l y=v)(hy:cellsOf v=some vs)(hm:Nat.beq (iL vs) m=true)
 (hk:az (pt b (.cells cs)) kl kl') (hv:jV cs o vs=some c):
 dQ (R (λh=>aH P ds (⟨⟨none,g,.store m x y⟩,[]⟩::rest) (act n l D pm ro) h K) B w0 kl F) (R (λh=>aH P ds rest (act n l D pm ro) h K) B w0 (pt b (.cells c)::kl') F):=ab5 hg hx (by rw[hw];exact hy) hm hk hv
end
def acw
 {fn:Fn} {first captured:kI aaB} {a b:kI vI} (hn:Nat.blt d n=true) (hg:cZ l g=true) (h1:EvL (ev l) first a) (h2:EvL (ev l) captured b):
 dQ (R (λh=>aH P ds (⟨⟨some d,g,.BM fn first captured⟩,[]⟩::rest) (act n l D pm ro) h K) B w0 kl F) (R (λh=>aH P ds rest (act n ((d,.func fn ⟨a⟩ ⟨b⟩)::l) D pm ro) h K) B w0 kl F):=fA hn hg (abz h1 h2)
def aGo(h:p:=by
 repeat (first
  |((with_reducible apply dQ.trans);first
   |with_reducible exact abA
   |with_reducible exact abB
   |with_reducible exact abC
   |with_reducible exact abD
   |with_reducible exact abE
   |with_reducible exact abF
   |with_reducible exact abG
   |with_reducible exact abH
   |with_reducible exact abI
   |with_reducible exact abJ
   |with_reducible exact abK
   |with_reducible exact abL
   |with_reducible exact abM
   |with_reducible exact abN
   |with_reducible exact abO
   |with_reducible exact abR
   |with_reducible exact abS
   |with_reducible exact abT
   |((with_reducible apply abP);exact rfl)
   |((with_reducible apply abQ);exact rfl)
   |((with_reducible apply abU);exact rfl)
   |((with_reducible apply abV);exact rfl)
   |((with_reducible apply abW);exact rfl;exact rfl)
   |((with_reducible apply aco);exact rfl;exact rfl;(focus ((conv=>lhs;whnf);(first|done|fail)));exact rfl;exact vW;(focus ((omega);(first|done|fail))))
   |((with_reducible apply acp);exact rfl;exact rfl;(focus ((conv=>lhs;whnf);(first|done|fail)));exact rfl;exact vW;(focus ((omega);(first|done|fail))))
   |((with_reducible apply Sc);exact rfl;exact rfl;(focus ((conv=>lhs;whnf);(first|done|fail)));exact rfl;exact vW;(focus ((omega);(first|done|fail)));(focus ((omega);(first|done|fail))))
   |((with_reducible apply Sd);exact rfl;exact rfl;(focus ((conv=>lhs;whnf);(first|done|fail)));exact rfl;exact vW;(focus ((omega);(first|done|fail)));(focus ((omega);(first|done|fail))))
   |((with_reducible apply fA);exact rfl;exact rfl;(focus ((first|((with_reducible apply EI);(focus ((conv=>lhs;whnf);(first|done|fail))))|((with_reducible apply Hw);(focus ((conv=>lhs;whnf);(first|done|fail))))|((with_reducible apply HY);exact rfl)|((with_reducible apply H6);exact rfl;exact rfl)|((with_reducible apply H7);exact rfl;exact rfl)|((with_reducible apply H8);exact rfl;exact rfl)|((with_reducible apply H9);exact rfl;exact rfl)|((with_reducible apply Ia);exact rfl;exact rfl)|((with_reducible apply Ib);exact rfl;exact rfl)|((with_reducible apply HV);exact rfl)|((with_reducible apply Hy);exact rfl;(focus ((conv=>lhs;whnf);(first|done|fail))))|((with_reducible apply Hz);exact rfl;(focus ((conv=>lhs;whnf);(first|done|fail))))|((with_reducible apply Ie);exact rfl;(focus ((conv=>lhs;whnf);(first|done|fail))))|((with_reducible apply Ig);exact rfl)|((with_reducible apply Ih);exact rfl;(focus ((conv=>lhs;whnf);(first|done|fail))))|((with_reducible apply Ii);exact rfl;(focus ((conv=>lhs;whnf);(first|done|fail))))|((with_reducible apply Ij);(focus ((conv=>lhs;whnf);(first|done|fail))))|((with_reducible apply Ik);exact rfl)|((with_reducible apply Il);exact rfl)|((with_reducible apply Im);exact rfl)|with_reducible exact HZ|((with_reducible apply Io);exact rfl;exact rfl;exact rfl)|((with_reducible apply IB);exact rfl;exact rfl;(focus ((omega);(first|done|fail))))|((with_reducible apply EJ);exact rfl;exact rfl;(focus ((omega);(first|done|fail)));(focus ((omega);(first|done|fail))))|((with_reducible apply Ip);exact rfl;exact rfl;(focus ((omega);(first|done|fail)));(focus ((omega);(first|done|fail))))|((with_reducible apply Cw);exact rfl;exact rfl;(focus ((omega);(first|done|fail)));(focus ((omega);(first|done|fail))))|((with_reducible apply Ic);exact rfl;exact rfl;(focus ((omega);(first|done|fail)));(focus ((omega);(first|done|fail))))|((with_reducible apply Iu);exact rfl;exact rfl;(focus ((first|assumption|kernel_rfl);(first|done|fail))))|((with_reducible apply Iw);exact rfl;exact rfl;(focus ((first|assumption|kernel_rfl);(first|done|fail))))|((with_reducible apply Iy);exact rfl;exact rfl)|((with_reducible apply Iz);exact rfl;exact rfl)|((with_reducible apply IA);exact rfl;exact rfl;(focus ((omega);(first|done|fail)));(focus ((omega);(first|done|fail)))));(first|done|fail))))
   |((with_reducible apply acw);exact rfl;exact rfl;(focus (repeat (first|with_reducible exact EvL.nil|((with_reducible apply EvL.cons);(conv=>lhs;whnf)))));(focus (repeat (first|with_reducible exact EvL.nil|((with_reducible apply EvL.cons);(conv=>lhs;whnf))))))
   |((with_reducible apply acr);exact rfl;exact rfl;(focus (repeat (first|with_reducible exact Fill.nil|((with_reducible apply Fill.cons);(conv=>lhs;whnf);(conv=>lhs;whnf);exact rfl;(conv=>lhs;whnf))))))
   |((with_reducible apply acs);exact rfl;exact rfl;(focus (repeat (first|with_reducible exact Fill.nil|((with_reducible apply Fill.cons);(conv=>lhs;whnf);(conv=>lhs;whnf);exact rfl;(conv=>lhs;whnf))))))
   |((with_reducible apply acu);exact rfl;exact rfl;(focus ((conv=>lhs;whnf);(first|done|fail)));(focus ((conv=>lhs;whnf);(first|done|fail))))
   |((with_reducible apply abX);exact rfl;exact rfl)
   |((with_reducible apply ab1);exact rfl;exact rfl;exact rfl;exact afv;(focus ((conv=>lhs;whnf);(first|done|fail))))
   |((with_reducible apply R9);exact rfl;exact rfl;exact rfl;exact afv;(focus ((conv=>lhs;whnf);(first|done|fail))))
   |((with_reducible apply ab2);exact rfl;exact rfl;exact rfl;exact vW;(focus ((conv=>lhs;whnf);(first|done|fail))))
   |((with_reducible apply ab3);exact rfl;exact rfl;exact rfl;exact vW;(focus ((conv=>lhs;whnf);(first|done|fail))))
   |((with_reducible apply ab4);exact rfl;exact rfl;exact rfl;exact vW;(focus ((conv=>lhs;whnf);(first|done|fail))))
   |((with_reducible apply Sa);exact rfl;exact rfl;exact rfl;exact vW;(focus ((conv=>lhs;whnf);(first|done|fail))))
   |((with_reducible apply acv);exact rfl;exact rfl;(focus ((conv=>lhs;whnf);(first|done|fail)));(focus ((conv=>lhs;whnf);(first|done|fail)));exact rfl;exact afv;(focus ((conv=>lhs;whnf);(first|done|fail))))
   |((with_reducible apply ab9);exact rfl;exact rfl;(focus ((conv=>lhs;whnf);(first|done|fail)));exact vW)
   |((with_reducible apply acd);exact rfl;exact rfl;(focus ((conv=>lhs;whnf);(first|done|fail)));exact afv)
   |((with_reducible apply acj (re:=_::_));exact rfl;exact rfl;(focus ((first|((with_reducible apply EI);(focus ((conv=>lhs;whnf);(first|done|fail))))|((with_reducible apply Hw);(focus ((conv=>lhs;whnf);(first|done|fail))))|((with_reducible apply HY);exact rfl)|((with_reducible apply H6);exact rfl;exact rfl)|((with_reducible apply H7);exact rfl;exact rfl)|((with_reducible apply H8);exact rfl;exact rfl)|((with_reducible apply H9);exact rfl;exact rfl)|((with_reducible apply Ia);exact rfl;exact rfl)|((with_reducible apply Ib);exact rfl;exact rfl)|((with_reducible apply HV);exact rfl)|((with_reducible apply Hy);exact rfl;(focus ((conv=>lhs;whnf);(first|done|fail))))|((with_reducible apply Hz);exact rfl;(focus ((conv=>lhs;whnf);(first|done|fail))))|((with_reducible apply Ie);exact rfl;(focus ((conv=>lhs;whnf);(first|done|fail))))|((with_reducible apply Ig);exact rfl)|((with_reducible apply Ih);exact rfl;(focus ((conv=>lhs;whnf);(first|done|fail))))|((with_reducible apply Ii);exact rfl;(focus ((conv=>lhs;whnf);(first|done|fail))))|((with_reducible apply Ij);(focus ((conv=>lhs;whnf);(first|done|fail))))|((with_reducible apply Ik);exact rfl)|((with_reducible apply Il);exact rfl)|((with_reducible apply Im);exact rfl)|with_reducible exact HZ|((with_reducible apply Io);exact rfl;exact rfl;exact rfl)|((with_reducible apply IB);exact rfl;exact rfl;(focus ((omega);(first|done|fail))))|((with_reducible apply EJ);exact rfl;exact rfl;(focus ((omega);(first|done|fail)));(focus ((omega);(first|done|fail))))|((with_reducible apply Ip);exact rfl;exact rfl;(focus ((omega);(first|done|fail)));(focus ((omega);(first|done|fail))))|((with_reducible apply Cw);exact rfl;exact rfl;(focus ((omega);(first|done|fail)));(focus ((omega);(first|done|fail))))|((with_reducible apply Ic);exact rfl;exact rfl;(focus ((omega);(first|done|fail)));(focus ((omega);(first|done|fail))))|((with_reducible apply Iu);exact rfl;exact rfl;(focus ((first|assumption|kernel_rfl);(first|done|fail))))|((with_reducible apply Iw);exact rfl;exact rfl;(focus ((first|assumption|kernel_rfl);(first|done|fail))))|((with_reducible apply Iy);exact rfl;exact rfl)|((with_reducible apply Iz);exact rfl;exact rfl)|((with_reducible apply IA);exact rfl;exact rfl;(focus ((omega);(first|done|fail)));(focus ((omega);(first|done|fail)))));(first|done|fail)));(focus ((repeat (first|exact yZ|refine AJ rfl afv AG rfl ?_|refine Cy rfl vW AG rfl ?_|refine EO rfl vW AG rfl ?_|refine EP rfl afv AG rfl ?_|refine EQ rfl vW AG rfl ?_|refine ER rfl vW AG rfl ?_));(first|done|fail))))
   |((with_reducible apply MG (re:=_::_));exact rfl;exact rfl;(focus ((conv=>lhs;whnf);(first|done|fail)));(focus ((conv=>lhs;whnf);(first|done|fail)));exact rfl;exact afv;(focus ((conv=>lhs;whnf);(first|done|fail)));(focus ((repeat (first|exact yZ|refine AJ rfl afv AG rfl ?_|refine Cy rfl vW AG rfl ?_|refine EO rfl vW AG rfl ?_|refine EP rfl afv AG rfl ?_|refine EQ rfl vW AG rfl ?_|refine ER rfl vW AG rfl ?_));(first|done|fail))))
   |fail)
  |((with_reducible apply dQ.all);intro _)
  |with_reducible apply dQ.imp)
 with_reducible exact dQ.refl _):p:=h
def go{G G':Prop}(x:G')(r:dQ G G':=by exact aGo):G:=r.h x
def mR{c:dI}{a:aV}(r:R (λh=>EV P c a h (yU P (.loop c) K)) B w0 kl F):R (λh=>EV P (.loop c) a h K) B w0 kl F:=λw s=>
 .loop _ (r w s) (λ_ _ hm=>hm) (λo a' h' hm hn=>by
  exact pT)
def lT.sub{F0:kI α}:∀{F:kI α},lT F0 F->Sub F0 F:=λ{F} h=>by
 have:∀k:kI α,(∀x∈k,x∈F)->Sub k F:=by
  intro k;induction k with
  |nil=>intro _;exact .nil
  |cons a k ih=>intro hk;exact .cons (hk a (cB ..)) (ih λx hx=>hk x (cO _ hx))
 exact this F0 h.mem
inductive bS{α:Type}:List α->List α->List α->Prop
 |nil {l:List α}:bS [] l l
 |cons {a:α} {k l m:List α} (h:bS k l m):bS (a::k) l (a::m)
 |self {k:List α}:bS k [] k
 |app {k l:List α}:bS k l (k++l)
def bS.eq:∀{k l m:kI α},bS k l m->k++l=m
 |_,_,_,.nil=>rfl
 |_,_,_,.self=>gU _
 |_,_,_,.app=>rfl
 |_,_,_,.cons h=>by rw[fV,h.eq]
def aQ0(h:p:=by intro _ _;repeat (first|exact yZ|refine AJ rfl afv AG rfl ?_|refine Cy rfl vW AG rfl ?_|refine EO rfl vW AG rfl ?_|refine EP rfl afv AG rfl ?_|refine EQ rfl vW AG rfl ?_|refine ER rfl vW AG rfl ?_|refine MF HO rfl ?_)):p:=h
def aQ1(h:p:=by intro y;repeat (first|exact bS.nil|apply bS.cons|exact bS.self|exact bS.app)):p:=h
def aQ2(h:p:=by repeat (first|exact rP.nil|(apply rP.drop;exact rfl)|(apply rP.keep;exact rfl))):p:=h
def aQ3(h:p:=by repeat (first|exact bS.nil|apply bS.cons|exact bS.self|exact bS.app)):p:=h
def aQ4(h:p:=by repeat (first|exact trivial|refine⟨rfl,?_⟩)):p:=h
def aQ5(h:p:=by dsimp only[qg,Nat.reduceAdd,List.append_nil,List.cons_append,List.nil_append]):p:=h
def aQ6(h:p:=by repeat (first|with_reducible exact EvL.nil|((with_reducible apply EvL.cons);(conv=>lhs;whnf)))):p:=h
def aQ7(h:p:=by conv=>lhs;(reduce;(try simp only[Int.reduceOfNat,Int.reduceNegSucc]))):p:=h
def aQ8(h:p:=by intro z y;repeat (first|exact bS.nil|apply bS.cons|exact bS.self|exact bS.app)):p:=h
def aQ9(h:p:=by first|exact .inl rfl|exact .inr rfl):p:=h
def anO(h:p:=by repeat (first|exact lT.here|apply lT.cons|apply lT.app)):p:=h
section
variable {B:kI Nat} {w0:Wd} {kl kl' bH:kI OA} {F:kI aO} {K:KO} {ds:kI Tmp} {rest:kI bV} {n:Nat} {l:qr} {D:kI Deferred} {pm:x8 FrameMode} {ro:x8 Nat} {d:Nat} {g:x8 (Tmp×Bool)}
variable{Y:Type}{vs:kI vI}
def ay{f:aaB}{xs:kI aaB}{re:kI iq}{fn:Fn}{first captured as:kI vI}{k1:kI OA}{F1:kI aO}{val:Y->vI}{k1':Y->kI OA}{fs:Y->kI aO}{pr:Y->Prop}{fu:Y->kI OA}{F2:Y->kI aO}
 (hc:bA P fn as captured k1 F1 val k1' fs pr) (hn:Nat.blt d n=true:=by rfl) (hg:cZ l g=true:=by rfl) (hf:ev l f=.func fn ⟨first⟩ ⟨captured⟩:=by rfl) (hx:EvL (ev l) xs vs:=by exact aQ6) (ha:first++vs=as:=by rfl)
 (hk:aI k1 kl bH:=by exact pg) (hF:Sub F1 F:=by exact o9)
 (hak:∀y,bS (k1' y) bH (fu y):=by exact aQ1) (CB:∀y,bS (fs y) F (F2 y):=by exact aQ1)
 (hs:∀y,pr y->Same P re (ev ((d,val y)::l)) ((d,val y)::l) B w0 (fu y) (F2 y):=by exact aQ0)
 (next:∀y,pr y->R (λh=>aH P ds rest (act n ((d,val y)::l) D pm ro) h K) B w0 (fu y) (F2 y)):
 R (λh=>aH P ds (⟨⟨some d,g,.call f xs⟩,re⟩::rest) (act n l D pm ro) h K) B w0 kl F:=
 ack hc hn hg hf hx ha hk hF (λy hy=>by rw[(hak y).eq,(CB y).eq];exact hs y hy) (λy hy=>by rw[(hak y).eq,(CB y).eq];exact next y hy)
abbrev dD(P:Program)(f:agR)(args:kI vI)(F:kI aO)(v:vI):Prop:=bA P (.func f) args [] [] F (λ_:Unit=>v) (λ_=>[]) (λ_=>[]) (λ_=>True)
abbrev FnS{α:Type}(P:Program)(f:agR)(args:kI vI)(F:kI aO)(E:Enc α)(ys:kI α):Prop:=bA P (.func f) args [] [] F (λv:vI=>v) (λ_=>[]) (λv=>[ai E v ys]) (λ_=>True)
variable{l0:qr}{args cap:kI vI}{c:dI}{m:Nat}
def aM{f:agR}{kl:kI OA}{F:kI aO}{val:Y->vI}{kl':Y->kI OA}{fs:Y->kI aO}{pr:Y->Prop}(cf:gV)(hF:(pX P qC pY).F f=some cf)
 (hb:∀B w0,R (λh=>EV P c (act m l0 [] none none) h (Cs cf (Left B w0 val kl' fs pr))) B w0 kl F)
 (h1:cf.body=c:=by exact aQ7) (h2:rD cf.ntmps (iL (args++cap))=m:=by conv=>lhs;whnf) (h3:qg 0 (args++cap) []=l0:=by exact aQ5):bA P (.func f) args cap kl F val kl' fs pr:=
 ach cf hF (by rw[h1,h2,h3];exact hb)
def gB{kl:kI OA}{F:kI aO}{val:Y->vI}{kl':Y->kI OA}{fs:Y->kI aO}{pr:Y->Prop}(f:agR)(hb:∀B w0,R (λh=>EV P c (act m l0 [] none none) h (Cs (uE P f) (Left B w0 val kl' fs pr))) B w0 kl F)(h:(mO P f).isSome=true:=by kernel_rfl)(h1:(uE P f).body=c:=by exact aQ7)(h2:rD (uE P f).ntmps (iL (args++cap))=m:=by conv=>lhs;whnf)(h3:qg 0 (args++cap) []=l0:=by exact aQ5):bA P (.func f) args cap kl F val kl' fs pr:=aM _ (aP f h) hb h1 h2 h3
def bi{α:Type}(E:Enc α){x i:aaB}{v:vI}{xs:kI α}{size:Nat}{k:Nat}{kk:IntKind}{F2:α->E.Y->kI aO}(hn:Nat.blt d n=true:=by rfl)(hg:cZ l g=true:=by rfl)(hx:ev l x=v:=by conv=>lhs;whnf)(hi:ev l i=.int kk (k:Int):=by rfl)
 (hf:ai E v xs∈F:=by exact vW) (hs:E.n=size:=by rfl) (h1:k<xs.length:=by omega)
 (ha:∀z y,bS (E.fs z y) F (F2 z y):=by exact aQ8)
 (next:∀b o z y,xs[k]? =some z->R (λh=>aH P ds rest (act n ((d,.pointer (some ⟨b,o,none⟩))::l) D pm ro) h K) B w0 kl (gY b o (E.pat z y)::F2 z y)):
 R (λh=>aH P ds (⟨⟨some d,g,.nQ size x i⟩,[]⟩::rest) (act n l D pm ro) h K) B w0 kl F:=
 (MB hn hg hx hi hf hs z7 z7).h λb o z y hz=>by rw[(ha z y).eq];exact next b o z y Ge
def ah{o:Out}{cf:gV}{val:Y->vI}{k1:Y->kI OA}{fs:Y->kI aO}{pr:Y->Prop}(y:Y)
 (hr:RS l kl cf.results vs:=by exact Cz) (hv:rO vs=val y:=by rfl) (hp:pr y)
 (hk:aI (k1 y) kl bH:=by exact pg) (hF:Sub (fs y) F:=by exact o9)
 (ho:o=.normal\/o=.ret:=by exact aQ9):R (λh=>Cs cf (Left B w0 val k1 fs pr) o (act n l [] none ro) h) B w0 kl F:=
 Sl y hr hv hp hk hF ho
def aie{A:OA}{fs F2:kI aO}{Q:IH->Prop}(hA:rH A fs)(hk:az A kl kl':=by exact afv)(ha:bS fs F F2:=by exact aQ3)(h:R Q B w0 kl' F2):R Q B w0 kl F:=
 ace hA hk (by rw[ha.eq];exact h)
variable{X:Type}
def aU{c:dI}{L2:X->qr}{ES:X->kI OA}{ET:X->kI aO}(m:X->Nat)(L:X->qr)(KL:X->kI OA)(FF:X->kI aO)(inv:X->Prop)(x0:X)(hi:inv x0)
 (h0:rP l (L x0) l0:=by exact aQ2) (hl:sub (L x0++l0) l:=by exact aQ4)
 (hk:aI (KL x0) kl bH:=by exact pg) (hF:Sub (FF x0) F:=by exact o9)
 (hak:∀x,bS (KL x) bH (ES x):=by exact aQ1) (CB:∀x,bS (FF x) F (ET x):=by exact aQ1)
 (hal:∀x,bS (L x) l0 (L2 x):=by exact aQ1)
 (body:∀x,inv x->R (λh=>EV P c (act n (L2 x) D pm ro) h (xE (LI n D pm ro B w0 m L KL FF inv l0 bH F) (m x) K)) B w0 (ES x) (ET x)):
 R (λh=>EV P (.loop c) (act n l D pm ro) h K) B w0 kl F:=
 acm m L KL FF inv x0 hi l0 hl hk hF λx hx=>by rw[(hak x).eq,(CB x).eq,(hal x).eq];exact body x hx
def aN{m:X->Nat}{L:X->qr}{KL:X->kI OA}{FF:X->kI aO}{inv:X->Prop}{EU fu:kI OA}{F0:kI aO}{m0:Nat}(x:X)(hm:m x<m0)(hi:inv x)
 (hl:sub (L x++l0) l:=by exact aQ4) (ha:bS (KL x) bH EU:=by exact aQ3)
 (hk:aI EU kl fu:=by exact pg) (hF:Sub (FF x) F:=by exact o9)
 (Az:lT F0 F:=by exact anO):
 R (λh=>xE (LI n D pm ro B w0 m L KL FF inv l0 bH F0) m0 K .normal (act n l D pm ro) h) B w0 kl F:=
 acn x hm hi hl (by rw[ha.eq];exact hk) hF Az
end
end Go.Ideal
namespace Go.Ideal
class alg (e:Bool) (f t:outParam Prop):Prop where
 no:e=false->f
 yes:e=true->t
instance (priority:=low) akn {e:Bool}:alg e (e=false) (e=true):=⟨id,id⟩
instance ako {p:Prop} {_:Decidable p}:alg (decide p) (¬p) p:=⟨nC,iI⟩
instance akp {p:Prop} {_:Decidable p}:alg (!decide p) p (¬p):=⟨λe=>by simpa using e,λe=>by simpa using e⟩
section
variable {P:Program}
variable {B:kI Nat} {w0:Wd} {kl:kI OA} {F:kI aO} {K:KO} {ds:kI Tmp} {rest:kI bV} {n:Nat} {l:qr} {D:kI Deferred} {pm:x8 FrameMode} {ro:x8 Nat} {t1 t2:Nat}
def gG{e:Bool}{f t:Prop}[alg e f t](h1:f->R (λh=>aH P ds rest (act n ((t1,.bool false)::(t2,.bool false)::l) D pm ro) h K) B w0 kl F)(h2:t->R (λh=>aH P ds rest (act n ((t1,.bool true)::(t2,.bool true)::l) D pm ro) h K) B w0 kl F):
 R (λh=>aH P ds rest (act n ((t1,.bool e)::(t2,.bool e)::l) D pm ro) h K) B w0 kl F:=
 lU (λx=>h1 (alg.no x)) (λx=>h2 (alg.yes x))
end
section
instance akq {n:Nat}:OfNat aaB n:=⟨.tmp n⟩
abbrev vS:vI:=.slice none 0 0
abbrev vE:vI:=.string ⟨⟨[]⟩⟩
abbrev kC(f:Nat)(l:kI aaB):aF:=.call (.func f) l
abbrev kS(n:Nat)(e:aF):bV:=⟨⟨some n,none,e⟩,[]⟩
abbrev kN(e:aF):bV:=⟨⟨none,none,e⟩,[]⟩
abbrev kM(n:Nat)(x:aaB):bV:=kS n (.mv x)
abbrev kO(l:kI bV):dI:=.ops (l.filterMap λx=>x.s.dst) l
end
variable {P:Program}
section
variable {B:kI Nat} {w0:Wd} {kl kl' bH:kI OA} {F:kI aO} {K:KO} {ds:kI Tmp} {rest:kI bV} {n:Nat} {l:qr} {D:kI Deferred} {pm:x8 FrameMode} {ro:x8 Nat} {d:Nat} {g:x8 (Tmp×Bool)}
variable{G:Prop}
def gIf{c:aaB}{x y:dI}{p:Prop}{ip:Decidable p}(h1:p->R (λh=>EV P x (act n l D pm ro) h K) B w0 kl F)(h2:¬p->R (λh=>EV P y (act n l D pm ro) h K) B w0 kl F)
 (r:dQ G (R (λh=>EV P (.cond c x y) (act n l D pm ro) h K) B w0 kl F):=by exact aGo) (hc:ev l c=.bool (decide p):=by exact rfl):G:=r.h (aA hc h1 h2)
variable{o:Out}{cf:gV}{vs:kI vI}{val:Unit->vI}{k1:Unit->kI OA}{fs:Unit->kI aO}{pr:Unit->Prop}
def acM(hv:rO vs=val ())(r:dQ G (R (λh=>Cs cf (Left B w0 val k1 fs pr) o (act n l [] none ro) h) B w0 kl F):=by exact aGo)(hr:RS l kl cf.results vs:=by exact Cz)(hp:pr ():=by exact trivial)(hk:aI (k1 ()) kl bH:=by exact pg)(hF:Sub (fs ()) F:=by exact o9)(ho:o=.normal\/o=.ret:=by exact aQ9):G:=r.h (ah () (hr:=hr) (hv:=hv) (hp:=hp) (hk:=hk) (hF:=hF) (ho:=ho))
def afN(r:dQ G (R (λh=>Cs cf (Left B w0 val k1 fs pr) o (act n l [] none ro) h) B w0 kl F):=by exact aGo)(hr:RS l kl cf.results vs:=by exact Cz)(hv:rO vs=val ():=by exact rfl)(hp:pr ():=by exact trivial)(hk:aI (k1 ()) kl bH:=by exact pg)(hF:Sub (fs ()) F:=by exact o9)(ho:o=.normal\/o=.ret:=by exact aQ9):G:=r.h (ah () (hr:=hr) (hv:=hv) (hp:=hp) (hk:=hk) (hF:=hF) (ho:=ho))
variable{Y:Type}
def gC
 {f:aaB}
 {xs:kI aaB}
 {re:kI iq}
 {fn:Fn}
 {first captured vs as:kI vI}
 {k1:kI OA}
 {F1:kI aO}
 {val:Y->vI}
 {k1':Y->kI OA}
 {fs:Y->kI aO}
 {pr:Y->Prop}
 {fu:Y->kI OA}
 {F2:Y->kI aO}
 (hc:bA P fn as captured k1 F1 val k1' fs pr)
 (next:∀y,pr y->R (λh=>aH P ds rest (act n ((d,val y)::l) D pm ro) h K) B w0 (fu y) (F2 y))
 {G:Prop} (r:dQ G (R (λh=>aH P ds (⟨⟨some d,g,.call f xs⟩,re⟩::rest) (act n l D pm ro) h K) B w0 kl F):=by exact aGo)
 (hn:Nat.blt d n=true:=by rfl)
 (hg:cZ l g=true:=by rfl)
 (hf:ev l f=.func fn ⟨first⟩ ⟨captured⟩:=by rfl)
 (hx:EvL (ev l) xs vs:=by exact aQ6)
 (ha:first++vs=as:=by rfl)
 (hk:aI k1 kl bH:=by exact pg)
 (hF:Sub F1 F:=by exact o9)
 (hak:∀y,bS (k1' y) bH (fu y):=by exact aQ1)
 (CB:∀y,bS (fs y) F (F2 y):=by exact aQ1)
 (hs:∀y,pr y->Same P re (ev ((d,val y)::l)) ((d,val y)::l) B w0 (fu y) (F2 y):=by exact aQ0):G:=r.h (ay (hc:=hc) (hn:=hn) (hg:=hg) (hf:=hf) (hx:=hx) (ha:=ha) (hk:=hk) (hF:=hF) (hak:=hak) (CB:=CB) (hs:=hs) (next:=next))
variable{α:Type}
def gX
 {x i:aaB}
 {v:vI}
 {xs:kI α}
 {size:Nat}
 {k:Nat}
 {kk:IntKind}
 (E:Enc α)
 {F2:α->E.Y->kI aO}
 (next:∀b o z y,xs[k]? =some z->R (λh=>aH P ds rest (act n ((d,.pointer (some ⟨b,o,none⟩))::l) D pm ro) h K) B w0 kl (gY b o (E.pat z y)::F2 z y))
 {G:Prop} (r:dQ G (R (λh=>aH P ds (⟨⟨some d,g,.nQ size x i⟩,[]⟩::rest) (act n l D pm ro) h K) B w0 kl F):=by exact aGo)
 (hn:Nat.blt d n=true:=by rfl)
 (hg:cZ l g=true:=by rfl)
 (hx:ev l x=v:=by conv=>lhs;whnf)
 (hi:ev l i=.int kk (k:Int):=by rfl)
 (hf:ai E v xs∈F:=by exact vW)
 (hs:E.n=size:=by rfl)
 (h1:k<xs.length:=by omega)
 (ha:∀z y,bS (E.fs z y) F (F2 z y):=by exact aQ8):G:=r.h (bi (E:=E) (hn:=hn) (hg:=hg) (hx:=hx) (hi:=hi) (hf:=hf) (hs:=hs) (h1:=h1) (ha:=ha) (next:=next))
def gQ
 {o:Out}
 {cf:gV}
 {vs:kI vI}
 {val:Y->vI}
 {k1:Y->kI OA}
 {fs:Y->kI aO}
 {pr:Y->Prop}
 (y:Y)
 (hp:pr y)
 (hr:RS l kl cf.results vs:=by exact Cz)
 (hv:rO vs=val y:=by rfl)
 (hk:aI (k1 y) kl bH:=by exact pg)
 (hF:Sub (fs y) F:=by exact o9)
 (ho:o=.normal\/o=.ret:=by exact aQ9):R (λh=>Cs cf (Left B w0 val k1 fs pr) o (act n l [] none ro) h) B w0 kl F:=ah (y:=y) (hr:=hr) (hv:=hv) (hp:=hp) (hk:=hk) (hF:=hF) (ho:=ho)
def gL{X:Type}
 {c:dI}
 {l0:qr}
 {L2:X->qr}
 {ES:X->kI OA}
 {ET:X->kI aO}
 (m:X->Nat) (L:X->qr) (inv:X->Prop) (x0:X) (hi:inv x0)
 (body:∀x,inv x->R (λh=>EV P c (act n (L2 x) D pm ro) h (xE (LI n D pm ro B w0 m L (λ_=>[]) (λ_=>[]) inv l0 bH F) (m x) K)) B w0 (ES x) (ET x))
 {G:Prop} (r:dQ G (R (λh=>EV P (.loop c) (act n l D pm ro) h K) B w0 kl F):=by exact aGo)
 (h0:rP l (L x0) l0:=by exact aQ2)
 (hl:sub (L x0++l0) l:=by exact aQ4)
 (hk:aI ([]) kl bH:=by exact pg)
 (hF:Sub ([]) F:=by exact o9)
 (hak:∀x,bS ([]) bH (ES x):=by exact aQ1)
 (CB:∀x,bS ([]) F (ET x):=by exact aQ1)
 (hal:∀x,bS (L x) l0 (L2 x):=by exact aQ1):G:=r.h (aU (m:=m) (L:=L) (KL:=λ_=>[]) (FF:=λ_=>[]) (inv:=inv) (x0:=x0) (hi:=hi) (h0:=h0) (hl:=hl) (hk:=hk) (hF:=hF) (hak:=hak) (CB:=CB) (hal:=hal) (body:=body))
def gN{c:dI}
 {l0:qr}
 {L2:Nat->qr}
 {ES:Nat->kI OA}
 {ET:Nat->kI aO}
 (N q:Nat) (inv:Nat->Prop) (hi:inv 0)
 (body:∀x,inv x->R (λh=>EV P c (act n (L2 x) D pm ro) h (xE (LI n D pm ro B w0 (λk=>N - k) (λk:Nat=>[(q,.int .i64 (k:Int))]) (λ_=>[]) (λ_=>[]) inv l0 bH F) (N - x) K)) B w0 (ES x) (ET x))
 {G:Prop} (r:dQ G (R (λh=>EV P (.loop c) (act n l D pm ro) h K) B w0 kl F):=by exact aGo)
 (h0:rP l ([(q,.int .i64 ((0:Nat):Int))]) l0:=by exact aQ2)
 (hl:sub ([(q,.int .i64 ((0:Nat):Int))]++l0) l:=by exact aQ4)
 (hk:aI ([]) kl bH:=by exact pg)
 (hF:Sub ([]) F:=by exact o9)
 (hak:∀x,bS ([]) bH (ES x):=by exact aQ1)
 (CB:∀x,bS ([]) F (ET x):=by exact aQ1)
 (hal:∀x,bS ([(q,.int .i64 (x:Int))]) l0 (L2 x):=by exact aQ1):G:=r.h (aU (m:=(λk=>N - k)) (L:=(λk:Nat=>[(q,.int .i64 (k:Int))])) (KL:=λ_=>[]) (FF:=λ_=>[]) (inv:=inv) (x0:=(0:Nat)) (hi:=hi) (h0:=h0) (hl:=hl) (hk:=hk) (hF:=hF) (hak:=hak) (CB:=CB) (hal:=hal) (body:=body))
variable{Q:IH->Prop}
def gF(E:Enc α)(v:vI)(xs:kI α)(h:∀a c,v=.slice a xs.length c->R Q B w0 kl F)(hf:ai E v xs∈F:=by exact vW):R Q B w0 kl F:=aS hf h
variable{F2:kI aO}
def gZ{A:OA}{fs:kI aO}(hA:rH A fs)(h:R Q B w0 kl' F2)(hk:az A kl kl':=by exact afv)(ha:bS fs F F2:=by exact aQ3):R Q B w0 kl F:=aie hA hk ha h
def gP{cs:kI vI}(b:Nat)(h:R Q B w0 kl' F2)(hk:az (pt b (.cells cs)) kl kl':=by exact afv)(ha:bS [gY b 0 cs] F F2:=by exact aQ3):R Q B w0 kl F:=aie eX hk ha h
def gH{t1 t2:Nat}{e:Bool}{f t:Prop}(h1:f->R (λh=>aH P ds rest (act n ((t1,.bool false)::(t2,.bool false)::l) D pm ro) h K) B w0 kl F)(h2:t->R (λh=>aH P ds rest (act n ((t1,.bool true)::(t2,.bool true)::l) D pm ro) h K) B w0 kl F)
 (r:dQ G (R (λh=>aH P ds rest (act n ((t1,.bool e)::(t2,.bool e)::l) D pm ro) h K) B w0 kl F):=by exact aGo) (i:alg e f t:=by exact inferInstance):G:=r.h (have _q:alg e f t:=i;gG h1 h2)
abbrev iV(n:Int):vI:=.int .i64 n
abbrev fC(P:Program){Y:Type}(f:agR)(args:kI vI)(F:kI aO)(v:Y->vI)(Q:Y->Prop):Prop:=bA P (.func f) args [] [] F v (λ_=>[]) (λ_=>[]) Q
end
end Go.Ideal
namespace Go.Ideal
noncomputable def MH(l:kI (Nat×dN))(n:Nat)(fn:Nat)(args:kI vI)(v:vI):gM->IH->x8 (vI×IH):=λq h=>
 match q with
 |⟨.func f,as,[],none⟩=>match h with
  |⟨.leaf,0,0⟩=>cond (Nat.beq f fn&&ou 5 (.tuple ⟨args⟩) (.tuple ⟨as⟩)) (some (v,⟨heapT l,n,0⟩)) none
  |_=>none
 |_=>none
variable{P:Program}{v:vI}
def acz{l:kI (Nat×dN)}{n fn:Nat}{args:kI vI}(hc:CALL P ⟨.func fn,args,[],none⟩ ⟨.leaf,0,0⟩ (λr pm h'=>leaves l n v r pm h'=true))
 {q:gM} {h:IH} {v':vI} {h':IH} (hk:MH l n fn args v q h=some (v',h')):CALL P q h (λr pm h2=>r=.ok v'/\pm=none/\h2=h'):=by
 unfold MH at hk;split at hk
 .rename_i f as;split at hk
  .cases hcd:(Nat.beq f fn&&ou 5 (.tuple ⟨args⟩) (.tuple ⟨as⟩))with
   |false=>rw[hcd]at hk;cases hk
   |true=>
    rw[hcd]at hk;simp only[cond,aD,di]at hk;obtain⟨rfl,rfl⟩:=hk;simp only[afD]at hcd;have h1:=kR hcd.1;subst h1;have h2:=yS _ _ _ hcd.2;injection h2 with h2;injection h2 with h2;subst h2;refine .forget _ hc ?_;intro r pm h' hl;unfold leaves at hl;split at hl
    .cases hl
    .split at hl
     .rename_i v';simp only[afD]at hl;obtain⟨⟨⟨h1,h2⟩,h3⟩,h4⟩:=hl;refine⟨⟨heapT l,n,0⟩,(kR h2).symm,(kR h3).symm,?_,?_,rfl,rfl⟩
      .intro i;rcases Mc l i with e|⟨o,e1,e2⟩
       .exact .inr ⟨bR _,e⟩
       .left;exact e2.trans (RG h4 i o e1).symm
      .rw[yS _ _ _ h1]
     .cases hl
  .cases hk
 .cases hk
def acA{f:agR}(hs:∀h,CALL P ⟨.func f,[],[],none⟩ h (λr pm h'=>pm=none/\r=.ok v/\h'=h)):dD P f [] [] v:=λB w s=>
 .vT _ (hs w.h) (by rintro r pm h' ⟨rfl,rfl,rfl⟩;exact⟨rfl,w,(),rfl,s,rfl,trivial⟩)
noncomputable def IC(L:Lay):Wd:=⟨ku L,λi=>i<(ku L).next,λ_ h=>h⟩
end Go.Ideal
namespace Go.Ideal
open Go.ChangeShapes Go.WideShapes Go.ChangeAt Go.RowKit
variable {P:Program}
def CF{α:Type}(P:Program)(t:adH)(E:Enc α):Prop:=∀(w:Wd) (H:Type) (d:DataW H) (cs:kI vI),(∀i,i<w.h.next->w.z i)->iw P w.h t cs d->∃a y,cs=E.pat a y/\∀f∈E.fs a y,f.p w
def IE{α:Type}{p:Nat->α->Prop}:∀n,(∀k,k<n->∃a,p k a)->∃l:kI α,l.length=n/\∀(k:Nat) a,l[k]? =some a->p k a
 |0,_=>⟨[],rfl,λk a h=>by cases h⟩
 |n+1,h=>by
  obtain⟨l,h1,h2⟩:=IE n (λk hk=>h k z7);obtain⟨a,ha⟩:=h n z7;refine⟨l++[a],by simp[h1],λk b hb=>?_⟩;by_cases hk:k<l.length
  .rw[qp hk]at hb;exact h2 k b hb
  .rw[pR z7]at hb;have hk0:k=n:=by have:=(bq.1 hb).1;simp at this;omega
   subst hk0;rw[h1]at hb;simp at hb;subst hb;exact ha
def Sm{α β:Type}(E1:Enc α)(E2:Enc β):Enc (α×β):=⟨E1.n+E2.n,E1.Y×E2.Y,λa y=>E1.pat a.1 y.1++E2.pat a.2 y.2,λa y=>E1.fs a.1 y.1++E2.fs a.2 y.2,λa y=>by rw[iH,E1.len,E2.len]⟩
def Sn:Enc Unit:=⟨0,Unit,λ_ _=>[],λ_ _=>[],λ_ _=>rfl⟩
inductive CG(P:Program):{α:Type}->List Field->Enc α->Prop
 |nil:CG P [] Sn
 |cons {α β:Type} {f:Field} {fs:List Field} {E1:Enc α} {E2:Enc β} (h:CF P f.type E1) (hn:P.cellsOf f.type=E1.n) (t:CG P fs E2):CG P (f::fs) (Sm E1 E2)
def CG.IG{w:Wd}{H:Type}(hz:∀i,i<w.h.next->w.z i):∀{α:Type} {fs:kI Field} {E:Enc α},CG P fs E->∀(o0:Nat) (cs:kI vI) (ds:kI (DataW H)),cs.length=(fs.map λf=>P.cellsOf f.type).sum->ds.length=fs.length->
 fs.map (·.offset)=sums o0 (fs.map λf=>P.cellsOf f.type)->(∀(j:Nat) f d,fs[j]? =some f->ds[j]? =some d->iw P w.h f.type ((cs.drop (f.offset - o0)).take (P.cellsOf f.type)) d)->∃a y,cs=E.pat a y/\∀f∈E.fs a y,f.p w
 |_,_,_,.nil,o0,cs,ds,h1,h2,h3,h4=>⟨(),(),jy.1 A6,λf hf=>by cases hf⟩
 |_,_,_,.cons (f:=f) (fs:=fs) (E1:=E1) (E2:=E2) h hn t,o0,cs,ds,h1,h2,h3,h4=>by
  match ds,h2 with
  |d::ds,h2=>
   simp only[agO,List.sum_cons,sums,zR]at h1 h3;obtain⟨ho,h3⟩:=h3;have r0:=h4 0 f d rfl rfl;rw[ho,vK,DC]at r0;obtain⟨a,y,q1,q2⟩:=h w H d _ hz r0;obtain⟨b,z,u1,u2⟩:=CG.IG hz t (o0+P.cellsOf f.type) (cs.drop (P.cellsOf f.type)) ds A0 BW h3 (λj g e hg he=>by
    exact de)
   refine⟨(a,b),(y,z),?_,?_⟩
   .show cs=E1.pat a y++E2.pat b z;rw[<- q1,<- u1,uq]
   .exact tG
def CF.conv{α β:Type}{t:adH}{E:Enc α}{E':Enc β}(h:CF P t E)(hc:∀a y,∃b z,E.pat a y=E'.pat b z/\E.fs a y=E'.fs b z):CF P t E':=λw H d cs hz r=>by
 obtain⟨a,y,q1,q2⟩:=h w H d cs hz r;obtain⟨b,z,e1,e2⟩:=hc a y;exact⟨b,z,by rw[q1,e1],λf hf=>q2 f (by rw[e2];exact hf)⟩
section
variable {H:Type} {enc:adH×vI->H} {W:World} {K:adH->Prop}
def vX(P:Program)(w:Wd)(t:adH)(v:vI){H:Type}(d:DataW H):Prop:=∃cs,iw P w.h t cs d/\((jC P t=true/\v=.agg ⟨cs⟩)\/(jC P t=false/\cs=[v]))
variable{α:Type}{w:Wd}{t:adH}{v:vI}{d:DataW H}
def vX.agg{E:Enc α}(h:vX P w t v d)(hz:∀i,i<w.h.next->w.z i)(ha:jC P t=true)(hr:CF P t E):∃a y,v=.agg ⟨E.pat a y⟩/\∀f∈E.fs a y,f.p w:=by
 exact ov
def vX.one{E:Enc α}(h:vX P w t v d)(hz:∀i,i<w.h.next->w.z i)(ha:jC P t=false)(hr:CF P t E):∃a y,E.pat a y=[v]/\∀f∈E.fs a y,f.p w:=by
 obtain⟨cs,r,⟨e,_⟩|⟨_,e⟩⟩:=h
 .rw[ha]at e;cases e
 .obtain⟨a,y,q0,q⟩:=hr w H d cs hz r;exact⟨a,y,by rw[<- q0,e],q⟩
variable{L:Lay}
def acB{v0:vI}(hw:w.h=ku L)(r:yY P (ku L) t v d)(hv:VR (jY L) v v0)(hok:Value.okWide P W .any 0 t v0):vX P w t v d:=by
 obtain⟨cs,r1,h2,h3⟩:=r;refine⟨cs,by rw[hw];exact r1,?_⟩;cases ha:jC P t with
 |true=>
  left;refine⟨rfl,?_⟩;rcases h3 with e|e
  .subst e;have hagg:∃c,v0=.agg c:=by
    unfold jC at ha;unfold Value.okWide at hok;split at ha
    .rename_i fs hu;exact ya
    .rename_i n e hu;exact ya
    .cases ha
   obtain⟨c,rfl⟩:=hagg
   exfalso
   cases hv<;>simp[cellV]at h2
  .exact e
 |false=>
  right;refine⟨rfl,?_⟩;rcases h3 with e|e
  .exact e
  .subst e
   exfalso
   cases hv with
   |agg hc hl=>
    cases hu:P.underlying t with
    |none=>simp[Value.okWide,Cell.okWide,Cell.ok,hu]at hok
    |some d=>cases d<;>simp[Value.okWide,Cell.okWide,Cell.ok,jC,hu]at hok ha
def acC{ts:kI adH}{vs' vs:kI vI}(hv:aW (jY L) vs' vs):∀(j:Nat) v',vs'[j]? =some v'->∃v,vs[j]? =some v/\VR (jY L) v' v:=by
 intro j;induction j generalizing vs' vs with
 |zero=>
  intro v' h;cases hv with
  |nil=>cases h
  |cons h1 h2=>cases h;exact⟨_,rfl,h1⟩
 |succ j ih=>
  intro v' h;cases hv with
  |nil=>cases h
  |cons h1 h2=>exact ih h2 v' h
def MI{a:Nat}{b:Nat->Bool}{c:Bool}:∀{ts:kI adH} {vs:kI vI} {ds:kI (DataW H)} {ps:kI MemPlace},DataW.TrodAll enc P W a b c ts vs ds ps->vs.length=ts.length/\ds.length=ts.length
 |[],[],[],_,_=>⟨rfl,rfl⟩
 |_::_,_::_,_::_,_,⟨_,_,_,h,_⟩=>by
  have:=MI h;simp[this.1,this.2]
def Sq{l:kI α}(h:l.length=3):∃a b c,l=[a,b,c]:=by
 match l,h with
 |[a,b,c],_=>exact⟨a,b,c,rfl⟩
def Su(Aq:P.follows .mixedOrders=true)(hgl:P.globals.size=0){f:agR}(fn:Func)(hfn:P.funcs[f]? =some fn)(hbody:fn.body.isNone=false)(hname:(fn.name== "runtime.NumGoroutine")=false)
 (hK:∀t,K t->PlainT P K t) {ts:kI adH} {vs:kI vI} {ds:kI (DataW H)} {ps:kI MemPlace} (hT:∀t∈ts,K t) (hok:∀(j:Nat) t v,ts[j]? =some t->vs[j]? =some v->Value.okWide P W .any 0 t v)
 (hA:DataW.TrodAll enc P W 0 (λ_=>true) true ts vs ds ps)
 (acD:∀(w:Wd) (vs':kI vI),(∀i,i<w.h.next->w.z i)->vs'.length=vs.length->(∀(j:Nat) t v d,ts[j]? =some t->vs'[j]? =some v->ds[j]? =some d->vX P w t v d)->∃F,(∀f∈F,f.p w)/\dD P f vs' F (.bool true)):
 Calls P f ⟨vs⟩ W (λe w'=>e=.returned (.bool true)/\Below W.heap.size W w'):=by
 obtain⟨M,vs',h1,h2,h3⟩:=R5 hK hT hok hA [];rw[dY]at h1 h2;refine abm Aq hgl fn hfn hbody hname (L:=M) (args:=vs') (λi g cs hi=>h3 i g cs (bR _) E6|>λq=>by simpa using q) h1 rfl ?_;have hlen:vs'.length=vs.length:=by
  have:∀{a b:kI vI},aW (jY M) a b->a.length=b.length:=by
   intro a;induction a with
   |nil=>intro b h;cases h;rfl
   |cons x a ih=>intro b h;cases h with|cons q r=>simp[ih r]
  exact this h1
 obtain⟨F,hF,hfn'⟩:=acD (IC M) vs' (λi hi=>hi) hlen (λj t v d ht hv hd=>by
  obtain⟨v0,e,rF⟩:=acC (ts:=ts) h1 j v hv;exact acB rfl (h2 j t v d ht hv hd) rF (hok j t v0 ht e))
 have st:St [] (IC M) [] F (IC M):=⟨⟨bT _,λ_ _ _=>rfl,λ_ _=>rfl⟩,Wd.Le.refl _,λi _ hz=>.inl hz,⟨[],rfl,yE,λi hi=>by cases hi⟩,hF⟩
 refine .vT _ (hfn' [] (IC M) st) ?_;rintro r pm h' ⟨rfl,w',y,rfl,s,rfl,_⟩;exact⟨rfl,rfl,⟨s.agree.next,λi hi=>s.agree.get i hi An,λhl=>s.agree.low hl An⟩⟩
end
end Go.Ideal
namespace Go.Ideal
variable {P:Program}
def rQ(P:Program)(cf:gV)(K:KR):KO:=λo a h=>match uC o with
 |none=>False
 |some m=>LEAVE P cf a.tmps a.defers m h λr h''=>K r a.pm h''
def acE{Y:Type}{f:agR}{args cap:kI vI}{kl:kI OA}{F:kI aO}{val:Y->vI}{kl':Y->kI OA}{fs:Y->kI aO}{pr:Y->Prop}{c:dI}{m:Nat}{l0:qr}(cf:gV)(hF:(pX P qC pY).F f=some cf)
 (hb:∀B w0,R (λh=>EV P c (act m l0 [] none none) h (rQ P cf (Left B w0 val kl' fs pr))) B w0 kl F)
 (h1:cf.body=c:=by exact aQ7) (h2:rD cf.ntmps (iL (args++cap))=m:=by conv=>lhs;whnf) (h3:qg 0 (args++cap) []=l0:=by exact aQ5):bA P (.func f) args cap kl F val kl' fs pr:=by
 intro B w s;obtain⟨fn,e1,e2⟩:=(Cr P qC pY (λf q h v h' hm=>by cases hm)).fn f cf hF;refine RO cf fn e1 e2 ?_;rw[ME,h1,h2,h3];exact hb B w w s
section
variable {B:kI Nat} {w0:Wd} {kl kl' bH:kI OA} {F:kI aO} {K:KO} {n:Nat} {l:qr} {D:kI Deferred} {pm:x8 FrameMode} {ro:x8 Nat}
inductive jZ:List OA->List Deferred->List OA->Prop
 |nil {kl:List OA}:jZ kl [] kl
 |cons {kl kl' fu:List OA} {r:Nat} {args:Array Value} {D:List Deferred} (h:az (pt r (.aid true)) kl kl') (t:jZ kl' D fu):jZ kl ({target:=.collected r,args}::D) fu
def jZ.leave{cf:gV}{ts:T vI}{Kr:iU->IH->Prop}:∀{D:kI Deferred} {kl fu:kI OA},jZ kl D fu->(∀w',St B w0 fu F w'->∃v,qB cf.results ts w'.h=some v/\Kr (.ok v) w'.h)->∀w,St B w0 kl F w->LEAVE P cf ts D .returning w.h Kr
 |_,_,_,.nil,hk,w,s=>by
  obtain⟨v,h1,h2⟩:=hk w s;exact .ret v h1 h2
 |_,_,_,.cons (r:=r) h t,hk,w,s=>by
  have s1:=s.gq h;refine .coll CC r s1.get.1 ?_;exact jZ.leave t hk _ (s1.write (o':=.aid false)).tail
variable{Y:Type}{o:Out}{fu:kI OA}
def acF{cf:gV}{vs:kI vI}{val:Y->vI}{k1:Y->kI OA}{fs:Y->kI aO}{pr:Y->Prop}(y:Y)(hD:jZ kl D fu)(hr:RS l fu cf.results vs)(hv:rO vs=val y)(hp:pr y)(hk:aI (k1 y) fu bH)(hF:Sub (fs y) F)
 (ho:o=.normal\/o=.ret):R (λh=>rQ P cf (Left B w0 val k1 fs pr) o (act n l D none ro) h) B w0 kl F:=by
 intro w s;have key:LEAVE P cf (ahI l) D .returning w.h λr h''=>Left B w0 val k1 fs pr r none h'':=by
  refine jZ.leave hD (λw' s'=>⟨val y,?_,rfl,w',y,rfl,((s'.kv hk).drop).sub hF,rfl,hp⟩) w s;unfold qB;rw[hr.all s',<- hv];exact sY
 rcases ho with rfl|rfl
 .exact key
 .exact key
def y5(L:oV):oV:={L with state:=.busy}
def oG(L:oV)(o:Out):oV:=match o with
 | .normal=>{L with state:=.ready,pending:=none}
 |o=>{L with state:=.done,pending:=some o}
def qH(o:Out):Bool:=match o with
 | .normal=>true
 |_=>false
def EW(o:Out):Prop:=match o with
 | .panic _=>False
 |_=>True
def EX{Y:Type}(B:kI Nat)(w0:Wd)(lo:Nat)(L:oV)(out:Y->Out)(k1:Y->kI OA)(fs:Y->kI aO)(pr:Y->Prop):KO:=λo a h=>
 a.defers=[]/\∃(w:Wd) (y:Y),w.h=h/\o=out y/\EW o/\St B w0 (pt lo (.loop (y5 L))::k1 y) (fs y) w/\pr y
def acG{lo:Nat}{L:oV}{out:Y->Out}{k1:Y->kI OA}{fs:Y->kI aO}{pr:Y->Prop}(y:Y)(ho:o=out y)(hn:EW o)(hp:pr y)(hk:aI (pt lo (.loop (y5 L))::k1 y) kl fu)(hF:Sub (fs y) F):
 R (λh=>EX B w0 lo L out k1 fs pr o (act n l [] none ro) h) B w0 kl F:=λw s=>⟨rfl,w,y,rfl,ho,hn,((s.kv hk).drop).sub hF,hp⟩
def Sv(n:Nat):∀(ps:kI Tmp) (args:kI vI) (l:qr),ps.all (λp=>Nat.blt p n)=true->ps.length=args.length->∃l2,uD n ps args (ahI l)=ahI l2/\l2=(ps.zip args).reverse++l
 |[],[],l,_,_=>⟨l,rfl,rfl⟩
 |p::ps,v::args,l,h,e=>by
  simp only[List.all_cons,afD]at h;obtain⟨l2,h1,h2⟩:=Sv n ps args ((p,v)::l) h.2 A3;refine⟨l2,?_,by rw[h2];simp⟩;rw[<- h1];show uD n ps args (cond (Nat.blt p n) ((ahI l).set p (some v)) (ahI l))=_;rw[h.1];rfl
def acH{f:aaB}{ps:kI Tmp}{assign body:dI}{fn:Fn}{first captured:kI vI}{k1:kI OA}{F1:kI aO}{MJ:Y->vI}{out:Y->Out}{k1':Y->kI OA}{fs:Y->kI aO}{pr:Y->Prop}
 (hf:ev l f=.func fn ⟨first⟩ ⟨captured⟩)
 (it:∀lo r,bA P fn (first++[.func (.yield lo) #[] #[]]) captured (pt lo (.loop ⟨.ready,none,ahI l,n,ps,assign,body,r⟩)::k1) F1 MJ (λy=>pt lo (.loop (oG ⟨.ready,none,ahI l,n,ps,assign,body,r⟩ (out y)))::k1' y) fs pr)
 (hk:aI k1 kl bH) (hF:Sub F1 F)
 (next:∀r y,pr y->R (λh=>K (out y) (act n l ({target:=.collected r,args:= #[]}::D) pm none) h) B w0 (k1' y++(pt r (.aid true)::bH)) (fs y++F)):
 R (λh=>EV P (.rangeFunc f ps assign body) (act n l D pm none) h K) B w0 kl F:=by
 intro w s;let L:Nat->oV:=λr=>⟨.ready,none,ahI l,n,ps,assign,body,r⟩
 let r:=w.h.next
 let w1:=w.new (.aid true)
 have s1:St B w0 (pt r (.aid true)::kl) F w1:=s.new _;let lo:=w1.h.next
 let w2:=w1.new (.loop (L r))
 have s2:St B w0 (pt lo (.loop (L r))::pt r (.aid true)::kl) F w2:=s1.new _;have s3:St B w0 ((pt lo (.loop (L r))::k1)++(pt r (.aid true)::bH)) F w2:=s2.kv (k:=pt lo (.loop (L r))::k1) (kl':=pt r (.aid true)::bH) (.cons .here (by
  have:∀{k kl bH:kI OA} (A:OA),aI k kl bH->aI k (A::kl) (A::bH):=by
   intro k kl bH A h;exact tg
  exact this _ hk))
 obtain⟨S,h1,h2,h3⟩:=s3.own;obtain⟨S1,S2,q1,q2,hp⟩:=h1.kv (k:=pt lo (.loop (L r))::k1) (kl':=pt r (.aid true)::bH) (by
  have:∀(k kr:kI OA),aI k (k++kr) kr:=by
   intro k kr;induction k with
   |nil=>exact .nil
   |cons A k ih=>exact .cons .here ih
  exact this _ _)
 have hsub:∀i∈S1,i∈S:=λi hi=>hp.mem_iff.2 (je _ hi);have st1:St S1 w2 (pt lo (.loop (L r))::k1) F1 w2:=⟨⟨bT _,λ_ _ _=>rfl,λ_ _=>rfl⟩,Wd.Le.refl w2,λi _ hz=>.inl hz,⟨S1,q1,(iT.1 (hp.nodup h2)).1,λi hi=>⟨.inr hi,(h3 i (hsub i hi)).2⟩⟩,λf hf=>s2.facts f (hF.mem f hf)⟩
 have hc:=it lo r S1 w2 st1;refine .rangeFunc fn first captured (by rw[nI];exact hf) (act n l ({target:=.collected r,args:= #[]}::D) pm none) w1.h r (.inl ⟨rfl,rfl,rfl,rfl⟩) (Left S1 w2 MJ (λy=>pt lo (.loop (oG (L r) (out y)))::k1' y) fs pr) ?_ ?_ ?_
 .rw[jK];exact hc
 .rintro v pm' h' ⟨rfl,w',y,rfl,c,hv,hpr⟩;have sc:St B w0 ((pt lo (.loop (oG (L r) (out y)))::k1' y)++(pt r (.aid true)::bH)) (fs y++F) w':=s3.call (k1:=pt lo (.loop (L r))::k1) (F1:=F1) ⟨S,hp,h2,h3⟩ q2 c;have hg:=(show St B w0 (pt lo (.loop (oG (L r) (out y)))::(k1' y++(pt r (.aid true)::bH))) (fs y++F) w' from sc).get;refine⟨oG (L r) (out y),hg.1,?_,?_⟩
  .cases out y<;>simp[oG]
  .have e:(oG (L r) (out y)).pending.getD .normal=out y:=by cases out y<;>rfl
   rw[e];exact next r y hpr _ (St.write (o':=.loop {oG (L r) (out y)with state:=.exhausted}) sc).tail
 .rintro ch pm' h' ⟨rfl,w',y,rfl,c,hv,hpr⟩;cases hv
end
end Go.Ideal
namespace Go.Ideal
variable {P:Program}
def mD{S α:Type}(step:S->α->S×Bool):S->kI α->S
 |s,[]=>s
 |s,x::xs=>match step s x with
  |(s',true)=>mD step s' xs
  |(s',false)=>s'
def pq{S α:Type}(step:S->α->S×Out):S->kI α->S×Out
 |s,[]=>(s,.normal)
 |s,x::xs=>match step s x with
  |(s',.normal)=>pq step s' xs
  |(s',o)=>(s',o)
def Sub.refl'{α:Type}:∀(l k:kI α),Sub l (k++l)
 |[],_=>.nil
 |a::l,k=>.cons (nA _ (cB ..)) (by have:=Sub.refl' l (k++[a]);rwa [List.append_assoc]at this)
def Sub.app{α:Type}:∀{k1 k2 l:kI α},Sub k1 l->Sub k2 l->Sub (k1++k2) l
 |_,_,_,.nil,h=>h
 |_,_,_,.cons h h1,h2=>.cons h (h1.app h2)
section
variable {B:kI Nat} {w0:Wd} {kl kl' bH:kI OA} {F:kI aO} {K:KO} {n:Nat} {l:qr} {D:kI Deferred} {pm:x8 FrameMode} {ro:x8 Nat}
def Sw{S α:Type}{step:S->α->S×Out}:∀(xs:kI α) (s:S),mD (λ(so:S×Out) x=>(step so.1 x,qH (step so.1 x).2)) (s,Out.normal) xs=pq step s xs
 |[],s=>rfl
 |x::xs,s=>by
  have ih:=Sw (step:=step) xs;simp only[mD,pq];cases h:step s x with
  |mk s' o=>
   cases o with
   |normal=>simp only[qH];exact ih s'
   |_=>simp only[qH]
end
end Go.Ideal
namespace Go.Ideal
variable {P:Program} {ρ:aaB->vI}
def wrapN{m:Nat}(h:m<9223372036854775808):IntKind.i64.wrap (m:Int)=m:=wrap64 z7 z7
variable{a b:Nat}{x y:aaB}{t:adH}
def alZ(hx:ρ x=.int .i64 (a:Int))(hy:ρ y=.int .i64 (b:Int))(hb:b<64):Pu P ρ (.bin .shr t x y) (.int .i64 ((a>>>b:Nat):Int)):=λh=>by
 simp only[aF.run,hx,hy];rw[EM (op:=.shr) (v:=.int .i64 ((a>>>b:Nat):Int)) rfl (by
  show eD P (Op.shift .shr .i64 a .i64 b)=_;unfold Op.shift;rw[if_neg z7];show some (Value.int .i64 ((a:Int).fdiv (2^(min (b:Int).toNat 64))))=_;exact li) rfl]
def Sy(hx:ρ x=.int .i64 (a:Int))(hy:ρ y=.int .i64 (b:Int))(hb:b<64)(hr:a<<<b<9223372036854775808):Pu P ρ (.bin .shl t x y) (.int .i64 ((a<<<b:Nat):Int)):=λh=>by
 simp only[aF.run,hx,hy];rw[EM (op:=.shl) (v:=.int .i64 ((a<<<b:Nat):Int)) rfl (by
  show eD P (Op.shift .shl .i64 a .i64 b)=_;unfold Op.shift;rw[if_neg z7];show some (Value.int .i64 (IntKind.i64.wrap ((a:Int)*2^(min (b:Int).toNat 64))))=_;rw[show min (b:Int).toNat 64=b by simp;omega];rw[show((a:Int)*2^b)=((a<<<b:Nat):Int)by rw[amL];simp,wrapN hr]) rfl]
def Sz(h:a<9223372036854775808):(BitVec.ofInt 64 (a:Int)).toNat=a:=by
 simp[BitVec.toNat_ofInt];omega
def al0(hx:ρ x=.int .i64 (a:Int))(hy:ρ y=.int .i64 (b:Int))(ha:a<9223372036854775808)(hb:b<9223372036854775808):Pu P ρ (.bin .and t x y) (.int .i64 ((a&&&b:Nat):Int)):=λh=>by
 simp only[aF.run,hx,hy];rw[EM (op:=.and) (v:=.int .i64 ((a&&&b:Nat):Int)) rfl (by
  show eD P (Op.intBits .and .i64 a b)=_;show some (Value.int .i64 (IntKind.i64.wrap ((BitVec.ofInt 64 (a:Int)&&&BitVec.ofInt 64 (b:Int)).toNat:Int)))=_;rw[BitVec.toNat_and,Sz ha,Sz hb,wrapN (ami Nat.and_le_left ha)]) rfl]
def SA(hx:ρ x=.int .i64 (a:Int))(hy:ρ y=.int .i64 (b:Int))(ha:a<9223372036854775808)(hb:b<9223372036854775808):Pu P ρ (.bin .or t x y) (.int .i64 ((a|||b:Nat):Int)):=λh=>by
 simp only[aF.run,hx,hy];rw[EM (op:=.or) (v:=.int .i64 ((a|||b:Nat):Int)) rfl (by
  show eD P (Op.intBits .or .i64 a b)=_;show some (Value.int .i64 (IntKind.i64.wrap ((BitVec.ofInt 64 (a:Int)|||BitVec.ofInt 64 (b:Int)).toNat:Int)))=_;have:a|||b<2^63:=amM z7 z7;rw[BitVec.toNat_or,Sz ha,Sz hb,wrapN z7]) rfl]
end Go.Ideal
namespace Go.Ideal
variable {P:Program}
def MK{X:Type}(f:X->kI OA):OA:=⟨λw S=>∃x,fI w (f x) S,λa h ⟨x,hx⟩=>⟨x,fI.loc a h hx⟩⟩
def II{ρ:aaB->vI}{x y:aaB}{a b:Int}(hx:ρ x=.int .i64 a)(hy:ρ y=.int .i64 b):Pu P ρ (.zW false [x,y]) (.int .i64 (min a b)):=λh=>by
 have e:lN ρ [x,y]=[.int .i64 a,.int .i64 b]:=by rw[vQ];simp[hx,hy]
 simp only[aF.run,e,uA,cond];by_cases hb:a<=b
 .rw[tC,dK hb,Int.min_eq_left hb]
 .have:leZ a b=false:=by rw[tC,aR hb]
  rw[this,Int.min_eq_right z7]
section
variable {B:kI Nat} {w0:Wd} {kl kl' bH:kI OA} {F:kI aO} {K:KO} {n:Nat} {l:qr} {D:kI Deferred} {pm:x8 FrameMode} {ro:x8 Nat}
variable{X:Type}{Q:IH->Prop}
def SB{f:X->kI OA}{fu:X->kI OA}(hk:az (MK f) kl kl':=by exact afv)(ha:∀x,bS (f x) kl' (fu x):=by intro x;repeat (first|exact bS.nil|apply bS.cons|exact bS.self|exact bS.app))(h:∀x,R Q B w0 (fu x) F):R Q B w0 kl F:=λw s=>by
 obtain⟨S,⟨S1,S2,⟨x,q1⟩,q2,e⟩,h2,h3⟩:=(s.gq hk).own;refine h x w ?_;rw[<- (ha x).eq];exact⟨s.agree,s.le,s.af9,⟨S,by rw[e];exact q1.app q2,h2,h3⟩,s.facts⟩
def SC(f:X->kI OA)(x:X){Q:IH->Prop}(hk:aI (f x) kl bH:=by exact pg)(h:R Q B w0 (MK f::bH) F):R Q B w0 kl F:=λw s=>by
 obtain⟨S,h1,h2,h3⟩:=s.own;obtain⟨S1,S2,q1,q2,hp⟩:=h1.kv hk;exact h w ⟨s.agree,s.le,s.af9,⟨S1++S2,⟨S1,S2,⟨x,q1⟩,q2,rfl⟩,hp.nodup h2,λi hi=>h3 i (hp.mem_iff.2 hi)⟩,s.facts⟩
def eF(g:aO)(hg:∀w:Wd,(∀f∈F,f.p w)->g.p w)(h:R Q B w0 kl (g::F)):R Q B w0 kl F:=λw s=>
 h w ⟨s.agree,s.le,s.af9,s.own,λf hf=>by
  rcases dx.1 hf with rfl|hf
  .exact hg w s.facts
  .exact s.facts f hf⟩
variable{α:Type}
def ML{E:Enc α}{w:Wd}{b f c:Nat}{v:vI}{xs:kI α}(h1:(gY b 0 [v]).p w)(h2:(ai E v xs).p w)(hc:1<=c:=by first|exact bT _|omega)(hf:f=0\/f=1:=by exact aQ9):(ai (ak E) (.slice (some ⟨b,0,some f⟩) 1 c) [xs]).p w:=by
 obtain⟨cells,q1,q2⟩:=h1;refine .inr ⟨b,0,f,c,cells,⟨rfl,hc,hf⟩,q1,λk x hk=>?_⟩;match k,hk with
 |0,hk=>
  cases hk;refine⟨v,λj u hj=>?_,λg hg=>by rw[bM.1 hg];exact h2⟩;have:=q2 j u hj;simpa using this
variable{Y:Type}
def MM{f:agR}{args cap:kI vI}{kl:kI OA}{F:kI aO}{val:Y->vI}{kl':Y->kI OA}{fs:Y->kI aO}{pr:Y->Prop}{c:dI}{m:Nat}{l0:qr}(cf:gV)(hF:(pX P qC pY).F f=some cf)
 (hb:∀B w0,R (λh=>EV P c (act m l0 [] none none) h (rQ P cf (Left B w0 val kl' fs pr))) B w0 kl F)
 (h1:cf.body=c:=by exact aQ7) (h2:rD cf.ntmps (iL (args++cap))=m:=by conv=>lhs;whnf) (h3:qg 0 (args++cap) []=l0:=by exact aQ5):bA P (.func f) args cap kl F val kl' fs pr:=
 acE cf hF hb h1 h2 h3
variable{fu:kI OA}
def IJ{o:Out}{cf:gV}{vs:kI vI}{val:Y->vI}{k1:Y->kI OA}{fs:Y->kI aO}{pr:Y->Prop}(y:Y)(hD:jZ kl D fu:=by repeat (first|exact jZ.nil|(apply jZ.cons;(focus (repeat (first|with_reducible exact az.here|with_reducible apply az.there|with_reducible apply az.app))))))
 (hr:RS l fu cf.results vs:=by exact Cz) (hv:rO vs=val y) (hp:pr y)
 (hk:aI (k1 y) fu bH:=by exact pg) (hF:Sub (fs y) F:=by exact o9)
 (ho:o=.normal\/o=.ret:=by exact aQ9):R (λh=>rQ P cf (Left B w0 val k1 fs pr) o (act n l D none ro) h) B w0 kl F:=
 acF y hD hr hv hp hk hF ho
def EY{lo:Nat}{L:oV}{out:Y->Out}{k1:Y->kI OA}{fs:Y->kI aO}{pr:Y->Prop}{o:Out}(y:Y)(ho:o=out y)(hn:EW o)(hp:pr y)
 (hk:aI (pt lo (.loop (y5 L))::k1 y) kl fu:=by exact pg) (hF:Sub (fs y) F:=by exact o9):
 R (λh=>EX B w0 lo L out k1 fs pr o (act n l [] none ro) h) B w0 kl F:=acG y ho hn hp hk hF
def fB(E:Enc α){ds:kI Tmp}{rest:kI bV}{d:Nat}{g:x8 (Tmp×Bool)}{e:adH}{size bytes b':Nat}{s x:aaB}{v:vI}{xs:kI α}(a:α)(y:E.Y){cs:kI vI}{k1 k2:kI OA}
 (hm:(xs.length+1)*bytes<=1073741824/\(xs.length+1)*size<=1073741824/\xs.length+1<=1073741824)
 (next:∀ad,R (λh=>aH P ds rest (act n ((d,.slice ad (xs.length+1) (xs.length+1))::l) D pm ro) h K) B w0 (ap E (.slice ad (xs.length+1) (xs.length+1)) (xs++[a])::k2) F)
 (hn:Nat.blt d n=true:=by rfl) (hg:cZ l g=true:=by rfl)
 (hs:ev l s=v:=by conv=>lhs;whnf) (hx:ev l x=.slice (some ⟨b',0,some 0⟩) 1 1:=by rfl) (hk:az (ap E v xs) kl k1:=by exact afv) (hc:az (pt b' (.cells cs)) k1 k2:=by exact afv) (hp:cs=E.pat a y:=by rfl) (hF:Sub (E.fs a y) F:=by exact o9) (hz:E.n=size:=by rfl):
 R (λh=>aH P ds (⟨⟨some d,g,.append e size bytes s x⟩,[]⟩::rest) (act n l D pm ro) h K) B w0 kl F:=
 (acf hn hg hs hx hk hc hp hF hz hm).h λv' w st=>by
   obtain⟨S,⟨S1,S2,q,_⟩,_⟩:=st.own;obtain⟨ad,e⟩:=Mx q;rw[iH,zS]at e;subst e;exact next ad w st
section
variable {ds:kI Tmp} {rest:kI bV} {d:Nat} {g:x8 (Tmp×Bool)}
variable{x y:aaB}
def IK{e:adH}{size bytes:Nat}{zero:kI vI}(m:Nat)(hm:m*bytes<=1073741824/\m*size<=1073741824/\m<=1073741824)
 (next:∀b,R (λh=>aH P ds rest (act n ((d,.slice (some ⟨b,0,some 0⟩) m m)::l) D pm ro) h K) B w0 (pt b (.cells (zeros zero m))::kl) F)
 (hx:ev l x=.int .i64 (m:Int):=by rfl) (hy:ev l y=.int .i64 (m:Int):=by rfl) (hn:Nat.blt d n=true:=by rfl) (hg:cZ l g=true:=by rfl):
 R (λh=>aH P ds (⟨⟨some d,g,.zV e size bytes zero x y⟩,[]⟩::rest) (act n l D pm ro) h K) B w0 kl F:=(ab0 hn hg hx hy hm).h next
variable{b o:Nat}{cs:kI vI}{v:vI}
def qI{cs':kI vI}(hs:cs.set o v=cs')(ho:o<cs.length)
 (next:R (λh=>aH P ds rest (act n l D pm ro) h K) B w0 (pt b (.cells cs')::kl') F)
 (hx:ev l x=.pointer (some ⟨b,o,none⟩):=by rfl) (hy:ev l y=v:=by rfl) (hv:cellsOf v=some [v]:=by rfl) (hk:az (pt b (.cells cs)) kl kl':=by exact afv) (hg:cZ l g=true:=by rfl):
 R (λh=>aH P ds (⟨⟨none,g,.store 1 x y⟩,[]⟩::rest) (act n l D pm ro) h K) B w0 kl F:=by subst hs;exact(ab6 hg hx hy hv hk ho).h next
def qh(v:vI)(hv:cs[o]? =some v)
 (next:R (λh=>aH P ds rest (act n ((d,v)::l) D pm ro) h K) B w0 kl F)
 (hx:ev l x=.pointer (some ⟨b,o,none⟩):=by rfl) (hk:az (pt b (.cells cs)) kl kl':=by exact afv) (hn:Nat.blt d n=true:=by rfl) (hg:cZ l g=true:=by rfl):
 R (λh=>aH P ds (⟨⟨some d,g,.ah2 x⟩,[]⟩::rest) (act n l D pm ro) h K) B w0 kl F:=(ab7 hn hg hx hk hv).h next
def acI{i:aaB}{xs:kI Int}(k:Nat)(z:Int){kk:IntKind}{d2:Nat}(hz:xs[k]? =some z)
 (next:∀b o,R (λh=>aH P ds rest (act n ((d2,.int .i64 z)::(d,.pointer (some ⟨b,o,none⟩))::l) D pm ro) h K) B w0 kl F)
 (hx:ev l x=v:=by conv=>lhs;whnf) (hi:ev l i=.int kk (k:Int):=by rfl) (hk:az (ap ae v xs) kl kl':=by exact afv) (hn:Nat.blt d n=true:=by rfl) (hn2:Nat.blt d2 n=true:=by rfl):
 R (λh=>aH P ds (⟨⟨some d,none,.nQ 1 x i⟩,[]⟩::⟨⟨some d2,none,.ah2 (.tmp d)⟩,[]⟩::rest) (act n l D pm ro) h K) B w0 kl F:=(acg hn rfl hn2 (λ_=>rfl) hx hi hk hz).h next
end
end
end Go.Ideal
namespace Go.Ideal
open Go.ChangeShapes Go.WideShapes Go.ChangeAt Go.RowKit
variable {P:Program}
def iZ{α:Type}(P:Program)(t:adH)(E:Enc α)(G:α->Prop):Prop:=∀(w:Wd) (H:Type) (d:DataW H) (cs:kI vI),(∀i,i<w.h.next->w.z i)->iw P w.h t cs d->∃a y,cs=E.pat a y/\(∀f∈E.fs a y,f.p w)/\G a
def kD(n:Int):Prop:= -9223372036854775808<=n/\n<9223372036854775808
def pu{α:Type}(G:α->Prop)(xs:kI α):Prop:=xs.length<9223372036854775808/\∀x∈xs,G x
variable{t:adH}
def acJ(ht:P.underlying t=some (.int .i64)):iZ P t ae kD:=λw H d cs hz r=>by
 obtain⟨n,rfl,_,h⟩:=r.mo ht;refine⟨n,(),rfl,(λf hf=>by cases hf),?_⟩;simp only[Lit.wf,IntKind.min,IntKind.max,IntKind.signed,IntKind.bits,afD,wP]at h;simp at h;exact⟨z7,z7⟩
def acK(ht:P.underlying t=some .string):iZ P t bC (λ_=>True):=λw H d cs hz r=>by
 obtain⟨n,rfl,_⟩:=r.Ai ht;exact⟨n,(),rfl,(λf hf=>by cases hf),trivial⟩
variable{α:Type}
def vY{e:adH}{E:Enc α}{G:α->Prop}(ht:P.underlying t=some (.slice e))(hn:P.cellsOf e=E.n)(he:iZ P e E G):iZ P t (ak E) (pu G):=λw H d cs hz r=>by
 rcases r.nT ht with⟨rfl,_⟩|⟨i,n,c,cells,els,rest,rfl,_,hnc,hl,hcl,hel⟩
 .exact⟨[],_,rfl,(λf hf=>by rw[bM.1 hf];exact .inl ⟨rfl,none,0,rfl,trivial⟩),An,λx hx=>by cases hx⟩
 .have hmax:maxLen=9223372036854775807:=by decide
  obtain⟨xs,hx1,hx2⟩:=IE (p:=λk a=>(∃y,(cells.drop (k*E.n)).take E.n=E.pat a y/\∀f∈E.fs a y,f.p w)/\G a) n (λk hk=>by
   have hk':k<els.length:=z7
   have:=hel k els[k] (bP hk');rw[hn]at this;obtain⟨a,y,q1,q2,q3⟩:=he w H _ _ hz this;exact⟨a,⟨y,q1,q2⟩,q3⟩)
  refine⟨xs,_,rfl,λf hf=>?_,z7,λx hx=>?_⟩
  .rw[bM.1 hf];rcases hcl with h0|hcl
   .left;have:xs=[]:=jy.1 z7;exact⟨this,some ⟨i,0,some 0⟩,c,by rw[h0],Or.inl rfl⟩
   .right;refine⟨i,0,0,c,cells,⟨by rw[hx1],by rw[hx1];exact hnc.1,.inl rfl⟩,⟨hz i hcl.1,hcl.2⟩,λk x hk=>?_⟩;obtain⟨⟨y,q1,q2⟩,_⟩:=hx2 k x hk;refine⟨y,λj u hj=>?_,q2⟩;rw[<- q1,sK]at hj;split at hj
    .rw[oO]at hj;rw[fo];exact hj
    .cases hj
  .obtain⟨k,hk⟩:=jS hx;exact(hx2 k x hk).2
inductive AL(P:Program):{α:Type}->List Field->Enc α->(α->Prop)->Prop
 |nil:AL P [] Sn (λ_=>True)
 |cons {α β:Type} {f:Field} {fs:List Field} {E1:Enc α} {E2:Enc β} {G1:α->Prop} {G2:β->Prop} (h:iZ P f.type E1 G1) (hn:P.cellsOf f.type=E1.n) (t:AL P fs E2 G2):AL P (f::fs) (Sm E1 E2) (λx=>G1 x.1/\G2 x.2)
def AL.IG{w:Wd}{H:Type}(hz:∀i,i<w.h.next->w.z i):∀{α:Type} {fs:kI Field} {E:Enc α} {G:α->Prop},AL P fs E G->∀(o0:Nat) (cs:kI vI) (ds:kI (DataW H)),cs.length=(fs.map λf=>P.cellsOf f.type).sum->ds.length=fs.length->
 fs.map (·.offset)=sums o0 (fs.map λf=>P.cellsOf f.type)->(∀(j:Nat) f d,fs[j]? =some f->ds[j]? =some d->iw P w.h f.type ((cs.drop (f.offset - o0)).take (P.cellsOf f.type)) d)->∃a y,cs=E.pat a y/\(∀f∈E.fs a y,f.p w)/\G a
 |_,_,_,_,.nil,o0,cs,ds,h1,h2,h3,h4=>⟨(),(),jy.1 A6,(λf hf=>by cases hf),trivial⟩
 |_,_,_,_,.cons (f:=f) (fs:=fs) (E1:=E1) (E2:=E2) h hn t,o0,cs,ds,h1,h2,h3,h4=>by
  match ds,h2 with
  |d::ds,h2=>
   simp only[agO,List.sum_cons,sums,zR]at h1 h3;obtain⟨ho,h3⟩:=h3;have r0:=h4 0 f d rfl rfl;rw[ho,vK,DC]at r0;obtain⟨a,y,q1,q2,q3⟩:=h w H d _ hz r0;obtain⟨b,z,u1,u2,u3⟩:=AL.IG hz t (o0+P.cellsOf f.type) (cs.drop (P.cellsOf f.type)) ds A0 BW h3 (λj g e hg he=>by
    exact de)
   refine⟨(a,b),(y,z),?_,?_,q3,u3⟩
   .show cs=E1.pat a y++E2.pat b z;rw[<- q1,<- u1,uq]
   .exact tG
def xL{fs:Array Field}{E:Enc α}{G:α->Prop}(ht:P.underlying t=some (.struct fs))(ho:fs.toList.map (·.offset)=sums 0 (fs.toList.map λf=>P.cellsOf f.type))
 (hs:P.cellsOf t=(fs.toList.map λf=>P.cellsOf f.type).sum) (h:AL P fs.toList E G):iZ P t E G:=λw H d cs hz r=>by
 obtain⟨ds,_,h1,h2,h3⟩:=r.R6 ht;refine h.IG hz 0 cs ds (by rw[h1,hs]) BW ho λj f d hf hd=>?_;rw[Dz];exact h3 j f d (by rw[<- zN];exact hf) hd
def iZ.conv{β:Type}{E:Enc α}{E':Enc β}{G:α->Prop}{G':β->Prop}(h:iZ P t E G)(hc:∀a y,G a->∃b z,E.pat a y=E'.pat b z/\E.fs a y=E'.fs b z/\G' b):iZ P t E' G':=λw H d cs hz r=>by
 obtain⟨a,y,q1,q2,q3⟩:=h w H d cs hz r;obtain⟨b,z,e1,e2,e3⟩:=hc a y q3;exact⟨b,z,by rw[q1,e1],(λf hf=>q2 f (by rw[e2];exact hf)),e3⟩
section
variable {H:Type}
def vX.IL{α:Type}{w:Wd}{t:adH}{v:vI}{d:DataW H}{E:Enc α}{G:α->Prop}(h:vX P w t v d)(hz:∀i,i<w.h.next->w.z i)(ha:jC P t=true)(hr:iZ P t E G):∃a y,v=.agg ⟨E.pat a y⟩/\(∀f∈E.fs a y,f.p w)/\G a:=by
 exact ov
end
end Go.Ideal
namespace Go.Ideal
variable {P:Program}
def fI.MN{w:Wd}{A:OA}:∀{kl kl':kI OA} {S:kI Nat},az A kl kl'->fI w (A::kl') S->∃S',fI w kl S'/\S.Perm S'
 |_,_,S,.here,h=>⟨S,h,.refl _⟩
 |_,_,_,.there (C:=C) (l:=l) (l':=l') s,⟨S1,S2,h1,⟨T1,T2,h2,h3,e2⟩,e⟩=>by
  subst e e2;obtain⟨S',q1,q2⟩:=fI.MN (w:=w) (A:=A) s ⟨S1,T2,h1,h3,rfl⟩;refine⟨T1++S',⟨T1,S',h2,q1,rfl⟩,?_⟩;have:(S1++(T1++T2)).Perm (T1++(S1++T2)):=by
   exact pB
  exact this.trans (q2.append_left T1)
def az.at{α:Type}{a:α}:∀{l:kI α} {k:Nat},l[k]? =some a->az a l (l.eraseIdx k)
 |[],k,h=>by simp at h
 |b::l,0,h=>by
  simp at h;subst h;exact .here
 |b::l,k+1,h=>.there (az.at (l:=l) (k:=k) AH)
def SE{α:Type}(a:α):∀(l:kI α) (k:Nat),(l.set k a).eraseIdx k=l.eraseIdx k
 |[],k=>rfl
 |b::l,0=>rfl
 |b::l,k+1=>by simp[SE a l k]
def R.perm{B:kI Nat}{w0:Wd}{kl fu:kI OA}{F:kI aO}{Q:IH->Prop}(hp:∀w S,fI w kl S->∃S',fI w fu S'/\S.Perm S')(h:R Q B w0 fu F):R Q B w0 kl F:=λw s=>by
 obtain⟨S,h1,h2,h3⟩:=s.own;obtain⟨S',q1,q2⟩:=hp w S h1;exact h w ⟨s.agree,s.le,s.af9,⟨S',q1,q2.nodup h2,λi hi=>h3 i (q2.mem_iff.2 hi)⟩,s.facts⟩
section
variable {B:kI Nat} {w0:Wd} {kl kl' bH k1 k2:kI OA} {F:kI aO} {K:KO} {n:Nat} {l:qr} {D:kI Deferred} {pm:x8 FrameMode} {ro:x8 Nat} {Q:IH->Prop}
end
end Go.Ideal
namespace Go.Ideal
variable {P:Program}
def MO{X:Type}(n:Nat)(D:kI Deferred)(pm:x8 FrameMode)(ro:x8 Nat)(B:kI Nat)(w0:Wd)(L:X->qr)(KL:X->kI OA)(FF:X->kI aO)(inv:X->Prop)(l0:qr)(bH:kI OA)(F0:kI aO)(K:KO):KO:=λo a h=>
 match o with
 | .normal=>∃(x:X) (l:qr) (w:Wd),a=act n l D pm ro/\sub (L x++l0) l/\w.h=h/\St B w0 (KL x++bH) (FF x++F0) w/\inv x
 |o=>K o a h
section
variable {B:kI Nat} {w0:Wd} {kl kl' bH k1 k2:kI OA} {F:kI aO} {K:KO} {n:Nat} {l:qr} {D:kI Deferred} {pm:x8 FrameMode} {ro:x8 Nat} {Q:IH->Prop}
section
variable {X:Type} {n2:Nat} {D2:kI Deferred} {pm2:x8 FrameMode} {ro2:x8 Nat} {B2:kI Nat} {w2:Wd} {L:X->qr} {KL:X->kI OA} {FF:X->kI aO} {inv:X->Prop} {l0:qr} {F0:kI aO}
def acN{a:aV}{ch:kI PanicEntry}(h:R (λh=>K (.panic ch) a h) B w0 kl F):R (λh=>MO n2 D2 pm2 ro2 B2 w2 L KL FF inv l0 bH F0 K (.panic ch) a h) B w0 kl F:=h
def IM{EU fu:kI OA}(x:X)(hi:inv x)(hl:sub (L x++l0) l:=by exact aQ4)
 (ha:bS (KL x) bH EU:=by exact aQ3)
 (hk:aI EU kl fu:=by exact pg) (hF:Sub (FF x) F:=by exact o9)
 (Az:lT F0 F:=by exact anO):
 R (λh=>MO n D pm ro B w0 L KL FF inv l0 bH F0 K .normal (act n l D pm ro) h) B w0 kl F:=λw s=>by
 refine⟨x,l,w,rfl,hl,rfl,?_,hi⟩;have s':=(s.kv hk).drop;rw[<- ha.eq]at s';exact⟨s'.agree,s'.le,s'.af9,s'.own,λf hf=>(dX.1 hf).elim (λhf=>s.facts f (hF.mem f hf)) (λhf=>s.facts f (Az.mem f hf))⟩
end
def SF{X:Type}{x y:dI}{l0:qr}{L2:X->qr}{ES:X->kI OA}{ET:X->kI aO}(ks:kI Nat)(L:X->qr)(KL:X->kI OA)(FF:X->kI aO)(inv:X->Prop)
 (hx:R (λh=>EV P x (act n l D pm ro) h (MO n D pm ro B w0 L KL FF inv l0 bH F K)) B w0 kl F)
 (hy:∀z,inv z->R (λh=>EV P y (act n (L2 z) D pm ro) h K) B w0 (ES z) (ET z))
 (h0:rP l (ks.map λk=>(k,sS)) l0:=by exact aQ2)
 (hal:∀x,bS (L x) l0 (L2 x):=by exact aQ1)
 (hak:∀x,bS (KL x) bH (ES x):=by exact aQ1) (CB:∀x,bS (FF x) F (ET x):=by exact aQ1):
 R (λh=>EV P x (act n l D pm ro) h (yU P y K)) B w0 kl F:=λw s=>by
 refine LY (hx w s) _ ?_;intro o a h hm;cases o with
 |normal=>
  obtain⟨z,l',w',rfl,hl,rfl,s',hz⟩:=hm;have:=hy z hz;rw[<- (hak z).eq,<- (CB z).eq,<- (hal z).eq]at this;exact RB (L9 hl) (this w' s')
 |exit j=>exact hm
 |ret=>exact hm
 |panic ch=>exact hm
end
end Go.Ideal
namespace Go.Ideal
variable {P:Program}
def anP{n k:Nat}(h:k<=n):upTo n (.int .i64 (k:Int))=some k:=by
 show cond (Nat.ble k n) (some k) none=_;rw[show Nat.ble k n=true from by rw[vH];exact h];rfl
section
variable {B:kI Nat} {w0:Wd} {kl kl' bH k1 k2:kI OA} {F:kI aO} {K:KO} {n:Nat} {l:qr} {D:kI Deferred} {pm:x8 FrameMode} {ro:x8 Nat} {Q:IH->Prop} {ds:kI Tmp} {rest:kI bV} {d:Nat} {g:x8 (Tmp×Bool)}
def acO{e:adH}{bytes b:Nat}{s x:aaB}{v:vI}{xs:kI Int}(hne:0<xs.length)(hm:xs.length*bytes<=1073741824/\xs.length<=1073741824)
 (next:∀b',R (λh=>aH P ds rest (act n ((d,.slice (some ⟨b',0,some 1⟩) xs.length xs.length)::l) D pm ro) h K) B w0 (pt b' (.cells (xs.map (.int .i64)))::kl') F)
 (hs:ev l s=.slice (some ⟨b,0,some 0⟩) 0 0:=by rfl) (hx:ev l x=v:=by conv=>lhs;whnf) (hf:ai ae v xs∈F:=by exact vW) (hk:az (pt b (.cells [])) kl kl':=by exact afv) (hn:Nat.blt d n=true:=by rfl) (hg:cZ l g=true:=by rfl):
 R (λh=>aH P ds (⟨⟨some d,g,.append e 1 bytes s x⟩,[]⟩::rest) (act n l D pm ro) h K) B w0 kl F:=λw st=>by
 have st1:=st.gq hk;have hat:At w.h b (.cells []):=st.at_ hk;obtain⟨k,hk'⟩:∃k,xs.length=k+1:=⟨xs.length - 1,z7⟩
 rcases st.facts _ hf with⟨rfl,_⟩|⟨i,o,f,c,cells,⟨e1,hc⟩,q2,q3⟩
 .simp at hne
 have hcells:∀j,j<xs.length->cells[o+j]? =(xs.map (Value.int .i64))[j]?:=λj hj=>by
  obtain⟨y,u1,_⟩:=q3 j xs[j] (bP hj);have:=u1 0 (.int .i64 xs[j]) rfl;rw[dm,bP hj];simpa[ae]using this
 have hlen:o+xs.length<=cells.length:=by
  have:=hcells (xs.length - 1) z7;have hx0:xs[xs.length - 1]? =some (xs[xs.length - 1]'(z7)):=bP _;rw[dm,hx0]at this;have:=(bq.1 this).1;omega
 have hread:w.h.iM i o (xs.length*1)=some (xs.map (.int .i64)):=by
  rw[q2.cells.iM,p9,qD,uw,if_pos A0];congr 1;apply iY;intro j;rw[sK];by_cases hj:j<xs.length
  .rw[if_pos hj,oO];exact hcells j hj
  .rw[if_neg hj,fO CA]
 refine Mk (b:=b) (o:=0) (m:=0) (k:=k) (f:=some 0) (old:=[]) (xs:=xs.map (.int .i64)) hn hg hs (by rw[hx,e1,hk'];rfl) ?_ ?_ (.inl rfl) ?_ λh' mv=>?_
 .rw[hx,e1,<- hk'];exact hread
 .rw[hat.c.iM];rfl
 .rw[fo,<- hk'];omega
 obtain⟨w',rfl,kz,EL⟩:=st1.move mv;rw[dY]at kz;have:=next w.h.next w' kz
 rw[hk']at this;rw[fo];exact this
end
