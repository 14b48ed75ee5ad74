/- Part. -/
import Derived.Test.YtignbinlipkmfaaGreatDoorIdealIG
set_option linter.all false
namespace Go.Ideal
variable{p:Prop}
def lI(h:p:=by repeat (first|exact Sub.nil|(apply Sub.cons;(focus ((repeat (first|with_reducible exact dP .. |with_reducible apply dO));first|done|fail)))|exact nY.sub (by repeat (first|with_reducible exact nY.here|with_reducible apply nY.cons|with_reducible apply nY.app)))):p:=h
def l6(h:p:=by repeat (first|exact aM.nil|(apply aM.cons;(focus (repeat (first|with_reducible exact aC.here|with_reducible apply aC.there|with_reducible apply aC.app))))|with_reducible exact aM.all _|with_reducible exact aM.self _ _|with_reducible apply aM.there)):p:=h
def dK(h:p:=by repeat (first|with_reducible exact aC.here|with_reducible apply aC.there|with_reducible apply aC.app)):p:=h
def yV(h:p:=by repeat (first|exact RS.nil|(apply RS.tmp;(conv=>lhs;whnf))|(apply RS.cell1;(focus exact rfl);(focus (repeat (first|with_reducible exact aC.here|with_reducible apply aC.there|with_reducible apply aC.app)));(conv=>lhs;whnf))|(apply RS.qE;(focus exact rfl);(focus (repeat (first|with_reducible exact aC.here|with_reducible apply aC.there|with_reducible apply aC.app)));(conv=>lhs;whnf)))):p:=h
def gM(h:p:=by(repeat (first|with_reducible exact dP .. |with_reducible apply dO));first|done|fail):p:=h
variable {P:Program}
section
variable {B:ae Nat} {w0:Wd} {kl:ae OA} {F:ae aH} {K:KO} {ds:ae Tmp} {rest:ae bJ} {n:Nat} {l:qr} {D:ae Deferred} {pm:aj FrameMode} {ro:aj Nat} {d:Nat} {g:aj (Tmp×Bool)}
variable{x i:ak}{v:ah}{k:Nat}{kk:IntKind}
def agL{xs:ae Int}(hn:Nat.blt d n=true)(hg:bK l g=true)(hx:ev l x=v)(hi:ev l i=.int kk (k:Int))(hf:aA ai v xs∈F)(h1:k<xs.length):
 cO (R (λh=>aK P ds (⟨⟨some d,g,.oz 1 x i⟩,[]⟩::rest) (act n l D pm ro) h K) B w0 kl F)
  (∀b o z,xs[k]? =some z->R (λh=>aK P ds rest (act n ((d,.pointer (some ⟨b,o,none⟩))::l) D pm ro) h K) B w0 kl (dx b o [.int .i64 z]::F)):=
 ⟨λr=>(Vp hn hg hx hi hf p0 p0).h λb o z hz=>r b o z sY⟩
def agM{xs:ae Bool}(hn:Nat.blt d n=true)(hg:bK l g=true)(hx:ev l x=v)(hi:ev l i=.int kk (k:Int))(hf:aA qJ v xs∈F)(h1:k<xs.length):
 cO (R (λh=>aK P ds (⟨⟨some d,g,.oz 1 x i⟩,[]⟩::rest) (act n l D pm ro) h K) B w0 kl F)
  (∀b o z,xs[k]? =some z->R (λh=>aK P ds rest (act n ((d,.pointer (some ⟨b,o,none⟩))::l) D pm ro) h K) B w0 kl (dx b o [.bool z]::F)):=
 ⟨λr=>(Vq hn hg hx hi hf p0 p0).h λb o z hz=>r b o z sY⟩
end
inductive Fill(ρ:Operand->Value):List Value->List (Nat×Nat×Operand)->List Value->Prop
 |nil {cs:List Value}:Fill ρ cs [] cs
 |cons {cs vs cs' r:List Value} {off size:Nat} {x:Operand} {parts:List (Nat×Nat×Operand)} {v:Value} (h0:ρ x=v) (h1:cellsOf v=some vs) (h2:Nat.beq (iI vs) size=true) (h3:iZ cs off vs=some cs') (t:Fill ρ cs' parts r):Fill ρ cs ((off,size,x)::parts) r
def Fill.eq{ρ:ak->ah}:∀{zero:ae ah} {parts:ae (Nat×Nat×ak)} {cs:ae ah},Fill ρ zero parts cs->sQ ρ zero parts=some cs
 |_,_,_,.nil=>rfl
 |cs0,_,_,.cons (off:=off) (size:=size) (x:=x) (parts:=parts) h0 h1 h2 h3 t=>by
  have ih:=t.eq;show(match cellsOf (ρ x)with
   |none=>none
   |some vs=>cond (Nat.beq (iI vs) size) (match iZ cs0 off vs with
    |some cs=>sQ ρ cs parts
    |none=>none) none)=_
  simp only[h0,h1,h2,h3,cond,ih]
variable{B:ae Nat}{w0:Wd}{kl:ae OA}{F:ae aH}{K:KO}{ds:ae Tmp}{rest:ae bJ}{n d:Nat}{l:qr}{D:ae Deferred}{pm:aj FrameMode}{ro:aj Nat}{g:aj (Tmp×Bool)}
def agN
 {t:aB} {len:Nat} {zero cs:ae ah} {parts:ae (Nat×Nat×ak)} (hn:Nat.blt d n=true) (hg:bK l g=true) (hx:Fill (ev l) zero parts cs):
 cO (R (λh=>aK P ds (⟨⟨some d,g,.zX t len zero parts⟩,[]⟩::rest) (act n l D pm ro) h K) B w0 kl F)
 (∀b,R (λh=>aK P ds rest (act n ((d,.slice (some ⟨b,0,some 0⟩) len len)::l) D pm ro) h K) B w0 (pt b (.cells cs)::kl) F):=agr hn hg hx.eq
def agO
 {zero cs:ae ah} {parts:ae (Nat×Nat×ak)} (hn:Nat.blt d n=true) (hg:bK l g=true) (hx:Fill (ev l) zero parts cs):
 cO (R (λh=>aK P ds (⟨⟨some d,g,.build zero parts⟩,[]⟩::rest) (act n l D pm ro) h K) B w0 kl F) (R (λh=>aK P ds rest (act n ((d,.agg ⟨cs⟩)::l) D pm ro) h K) B w0 kl F):=bV hn hg (afX hx.eq)
variable{α:Type}
def agP{E:Enc α}{v:ah}{xs:ae α}{Q:IH->Prop}(hf:aA E v xs∈F)(h:∀a c,v=.slice a xs.length c->R Q B w0 kl F):R Q B w0 kl F:=λw s=>by
 obtain⟨a,c,e⟩:=Vo (s.facts _ hf);exact h a c e w s
section
variable {B:ae Nat} {w0:Wd} {kl:ae OA} {F:ae aH} {K:KO} {ds:ae Tmp} {rest:ae bJ} {n:Nat} {l:qr} {D:ae Deferred} {pm:aj FrameMode} {ro:aj Nat} {t1 t2:Nat}
def GM{e:Bool}(h1:e=false->R (λh=>aK P ds rest (act n ((t1,.bool false)::(t2,.bool false)::l) D pm ro) h K) B w0 kl F)(h2:e=true->R (λh=>aK P ds rest (act n ((t1,.bool true)::(t2,.bool true)::l) D pm ro) h K) B w0 kl F):
 R (λh=>aK P ds rest (act n ((t1,.bool e)::(t2,.bool e)::l) D pm ro) h K) B w0 kl F:=by
 cases e
 .exact h1 rfl
 .exact h2 rfl
variable{p:Prop}
def O8{_:Decidable p}(h1:¬p->R (λh=>aK P ds rest (act n ((t1,.bool false)::(t2,.bool false)::l) D pm ro) h K) B w0 kl F)(h2:p->R (λh=>aK P ds rest (act n ((t1,.bool true)::(t2,.bool true)::l) D pm ro) h K) B w0 kl F):
 R (λh=>aK P ds rest (act n ((t1,.bool (decide p))::(t2,.bool (decide p))::l) D pm ro) h K) B w0 kl F:=
 GM (λe=>h1 (vH e)) (λe=>h2 (jT e))
def O9{_:Decidable p}(h1:p->R (λh=>aK P ds rest (act n ((t1,.bool false)::(t2,.bool false)::l) D pm ro) h K) B w0 kl F)(h2:¬p->R (λh=>aK P ds rest (act n ((t1,.bool true)::(t2,.bool true)::l) D pm ro) h K) B w0 kl F):
 R (λh=>aK P ds rest (act n ((t1,.bool (!decide p))::(t2,.bool (!decide p))::l) D pm ro) h K) B w0 kl F:=
 GM (λe=>h1 rB) (λe=>h2 rB)
end
section
variable {B:ae Nat} {w0:Wd} {kl kl':ae OA} {F:ae aH} {K:KO} {ds:ae Tmp} {rest:ae bJ} {n:Nat} {l:qr} {D:ae Deferred} {pm:aj FrameMode} {ro:aj Nat} {d:Nat} {g:aj (Tmp×Bool)}
variable{x:ak}{v:ah}{cs:ae ah}
def agQ{t:aB}(hn:Nat.blt d n=true)(hg:bK l g=true)(hv:ev l x=v)(hx:cellsOf v=some cs):cO (R (λh=>aK P ds (⟨⟨some d,g,.box x t⟩,[]⟩::rest) (act n l D pm ro) h K) B w0 kl F)
 (∀b,R (λh=>aK P ds rest (act n ((d,.pointer (some ⟨b,0,none⟩))::l) D pm ro) h K) B w0 (pt b (.cells cs)::kl) F):=agq hn hg (by rw[hv];exact hx)
def agR{y:ak}{b o m:Nat}{vs c:ae ah}(hg:bK l g=true)(hx:ev l x=.pointer (some ⟨b,o,none⟩))(hw:ev l y=v)(hy:cellsOf v=some vs)(hm:Nat.beq (iI vs) m=true)
 (hk:aC (pt b (.cells cs)) kl kl') (hv:iZ cs o vs=some c):
 cO (R (λh=>aK P ds (⟨⟨none,g,.store m x y⟩,[]⟩::rest) (act n l D pm ro) h K) B w0 kl F) (R (λh=>aK P ds rest (act n l D pm ro) h K) B w0 (pt b (.cells c)::kl') F):=O3 hg hx (by rw[hw];exact hy) hm hk hv
end
def agS
 {fn:Fn} {first captured:ae ak} {a b:ae ah} (hn:Nat.blt d n=true) (hg:bK l g=true) (h1:EvL (ev l) first a) (h2:EvL (ev l) captured b):
 cO (R (λh=>aK P ds (⟨⟨some d,g,.Dt fn first captured⟩,[]⟩::rest) (act n l D pm ro) h K) B w0 kl F) (R (λh=>aK P ds rest (act n ((d,.func fn ⟨a⟩ ⟨b⟩)::l) D pm ro) h K) B w0 kl F):=bV hn hg (afY h1 h2)
def yX(h:p:=by
 repeat (first
  |((with_reducible apply cO.trans);first
   |with_reducible exact afZ
   |with_reducible exact af0
   |with_reducible exact af1
   |with_reducible exact af2
   |with_reducible exact af3
   |with_reducible exact af4
   |with_reducible exact af5
   |with_reducible exact af6
   |with_reducible exact af7
   |with_reducible exact af8
   |with_reducible exact af9
   |with_reducible exact aga
   |with_reducible exact agb
   |with_reducible exact agc
   |with_reducible exact agd
   |with_reducible exact agh
   |with_reducible exact agi
   |with_reducible exact agj
   |((with_reducible apply age);exact rfl)
   |((with_reducible apply agf);exact rfl)
   |((with_reducible apply agk);exact rfl)
   |((with_reducible apply agl);exact rfl)
   |((with_reducible apply agm);exact rfl;exact rfl)
   |((with_reducible apply agL);exact rfl;exact rfl;(focus ((conv=>lhs;whnf);(first|done|fail)));exact rfl;exact gM;(focus ((omega);(first|done|fail))))
   |((with_reducible apply agM);exact rfl;exact rfl;(focus ((conv=>lhs;whnf);(first|done|fail)));exact rfl;exact gM;(focus ((omega);(first|done|fail))))
   |((with_reducible apply Vp);exact rfl;exact rfl;(focus ((conv=>lhs;whnf);(first|done|fail)));exact rfl;exact gM;(focus ((omega);(first|done|fail)));(focus ((omega);(first|done|fail))))
   |((with_reducible apply Vq);exact rfl;exact rfl;(focus ((conv=>lhs;whnf);(first|done|fail)));exact rfl;exact gM;(focus ((omega);(first|done|fail)));(focus ((omega);(first|done|fail))))
   |((with_reducible apply bV);exact rfl;exact rfl;(focus ((first|((with_reducible apply JI);(focus ((conv=>lhs;whnf);(first|done|fail))))|((with_reducible apply JJ);(focus ((conv=>lhs;whnf);(first|done|fail))))|((with_reducible apply JN);exact rfl)|((with_reducible apply JP);exact rfl;exact rfl)|((with_reducible apply JQ);exact rfl;exact rfl)|((with_reducible apply JR);exact rfl;exact rfl)|((with_reducible apply JS);exact rfl;exact rfl)|((with_reducible apply JU);exact rfl;exact rfl)|((with_reducible apply JV);exact rfl;exact rfl)|((with_reducible apply JM);exact rfl)|((with_reducible apply JK);exact rfl;(focus ((conv=>lhs;whnf);(first|done|fail))))|((with_reducible apply JL);exact rfl;(focus ((conv=>lhs;whnf);(first|done|fail))))|((with_reducible apply JX);exact rfl;(focus ((conv=>lhs;whnf);(first|done|fail))))|((with_reducible apply JY);exact rfl)|((with_reducible apply JZ);exact rfl;(focus ((conv=>lhs;whnf);(first|done|fail))))|((with_reducible apply J2);exact rfl;(focus ((conv=>lhs;whnf);(first|done|fail))))|((with_reducible apply J3);(focus ((conv=>lhs;whnf);(first|done|fail))))|((with_reducible apply J4);exact rfl)|((with_reducible apply J5);exact rfl)|((with_reducible apply J6);exact rfl)|with_reducible exact JO|((with_reducible apply J7);exact rfl;exact rfl;exact rfl)|((with_reducible apply Kl);exact rfl;exact rfl;(focus ((omega);(first|done|fail))))|((with_reducible apply GD);exact rfl;exact rfl;(focus ((omega);(first|done|fail)));(focus ((omega);(first|done|fail))))|((with_reducible apply J8);exact rfl;exact rfl;(focus ((omega);(first|done|fail)));(focus ((omega);(first|done|fail))))|((with_reducible apply Ee);exact rfl;exact rfl;(focus ((omega);(first|done|fail)));(focus ((omega);(first|done|fail))))|((with_reducible apply JW);exact rfl;exact rfl;(focus ((omega);(first|done|fail)));(focus ((omega);(first|done|fail))))|((with_reducible apply Kc);exact rfl;exact rfl;(focus ((first|assumption|kernel_rfl);(first|done|fail))))|((with_reducible apply Ke);exact rfl;exact rfl;(focus ((first|assumption|kernel_rfl);(first|done|fail))))|((with_reducible apply Kg);exact rfl;exact rfl)|((with_reducible apply Kh);exact rfl;exact rfl)|((with_reducible apply Ki);exact rfl;exact rfl;(focus ((omega);(first|done|fail)));(focus ((omega);(first|done|fail)))));(first|done|fail))))
   |((with_reducible apply agS);exact rfl;exact rfl;(focus (repeat (first|with_reducible exact EvL.nil|((with_reducible apply EvL.cons);(conv=>lhs;whnf)))));(focus (repeat (first|with_reducible exact EvL.nil|((with_reducible apply EvL.cons);(conv=>lhs;whnf))))))
   |((with_reducible apply agN);exact rfl;exact rfl;(focus (repeat (first|with_reducible exact Fill.nil|((with_reducible apply Fill.cons);(conv=>lhs;whnf);(conv=>lhs;whnf);exact rfl;(conv=>lhs;whnf))))))
   |((with_reducible apply agO);exact rfl;exact rfl;(focus (repeat (first|with_reducible exact Fill.nil|((with_reducible apply Fill.cons);(conv=>lhs;whnf);(conv=>lhs;whnf);exact rfl;(conv=>lhs;whnf))))))
   |((with_reducible apply agQ);exact rfl;exact rfl;(focus ((conv=>lhs;whnf);(first|done|fail)));(focus ((conv=>lhs;whnf);(first|done|fail))))
   |((with_reducible apply agp);exact rfl;exact rfl)
   |((with_reducible apply agu);exact rfl;exact rfl;exact rfl;exact dK;(focus ((conv=>lhs;whnf);(first|done|fail))))
   |((with_reducible apply Vm);exact rfl;exact rfl;exact rfl;exact dK;(focus ((conv=>lhs;whnf);(first|done|fail))))
   |((with_reducible apply agv);exact rfl;exact rfl;exact rfl;exact gM;(focus ((conv=>lhs;whnf);(first|done|fail))))
   |((with_reducible apply Kb);exact rfl;exact rfl;exact rfl;exact gM;(focus ((conv=>lhs;whnf);(first|done|fail))))
   |((with_reducible apply agw);exact rfl;exact rfl;exact rfl;exact gM;(focus ((conv=>lhs;whnf);(first|done|fail))))
   |((with_reducible apply Vn);exact rfl;exact rfl;exact rfl;exact gM;(focus ((conv=>lhs;whnf);(first|done|fail))))
   |((with_reducible apply agR);exact rfl;exact rfl;(focus ((conv=>lhs;whnf);(first|done|fail)));(focus ((conv=>lhs;whnf);(first|done|fail)));exact rfl;exact dK;(focus ((conv=>lhs;whnf);(first|done|fail))))
   |((with_reducible apply agA);exact rfl;exact rfl;(focus ((conv=>lhs;whnf);(first|done|fail)));exact gM)
   |((with_reducible apply agB);exact rfl;exact rfl;(focus ((conv=>lhs;whnf);(first|done|fail)));exact dK)
   |((with_reducible apply agH (re:=_::_));exact rfl;exact rfl;(focus ((first|((with_reducible apply JI);(focus ((conv=>lhs;whnf);(first|done|fail))))|((with_reducible apply JJ);(focus ((conv=>lhs;whnf);(first|done|fail))))|((with_reducible apply JN);exact rfl)|((with_reducible apply JP);exact rfl;exact rfl)|((with_reducible apply JQ);exact rfl;exact rfl)|((with_reducible apply JR);exact rfl;exact rfl)|((with_reducible apply JS);exact rfl;exact rfl)|((with_reducible apply JU);exact rfl;exact rfl)|((with_reducible apply JV);exact rfl;exact rfl)|((with_reducible apply JM);exact rfl)|((with_reducible apply JK);exact rfl;(focus ((conv=>lhs;whnf);(first|done|fail))))|((with_reducible apply JL);exact rfl;(focus ((conv=>lhs;whnf);(first|done|fail))))|((with_reducible apply JX);exact rfl;(focus ((conv=>lhs;whnf);(first|done|fail))))|((with_reducible apply JY);exact rfl)|((with_reducible apply JZ);exact rfl;(focus ((conv=>lhs;whnf);(first|done|fail))))|((with_reducible apply J2);exact rfl;(focus ((conv=>lhs;whnf);(first|done|fail))))|((with_reducible apply J3);(focus ((conv=>lhs;whnf);(first|done|fail))))|((with_reducible apply J4);exact rfl)|((with_reducible apply J5);exact rfl)|((with_reducible apply J6);exact rfl)|with_reducible exact JO|((with_reducible apply J7);exact rfl;exact rfl;exact rfl)|((with_reducible apply Kl);exact rfl;exact rfl;(focus ((omega);(first|done|fail))))|((with_reducible apply GD);exact rfl;exact rfl;(focus ((omega);(first|done|fail)));(focus ((omega);(first|done|fail))))|((with_reducible apply J8);exact rfl;exact rfl;(focus ((omega);(first|done|fail)));(focus ((omega);(first|done|fail))))|((with_reducible apply Ee);exact rfl;exact rfl;(focus ((omega);(first|done|fail)));(focus ((omega);(first|done|fail))))|((with_reducible apply JW);exact rfl;exact rfl;(focus ((omega);(first|done|fail)));(focus ((omega);(first|done|fail))))|((with_reducible apply Kc);exact rfl;exact rfl;(focus ((first|assumption|kernel_rfl);(first|done|fail))))|((with_reducible apply Ke);exact rfl;exact rfl;(focus ((first|assumption|kernel_rfl);(first|done|fail))))|((with_reducible apply Kg);exact rfl;exact rfl)|((with_reducible apply Kh);exact rfl;exact rfl)|((with_reducible apply Ki);exact rfl;exact rfl;(focus ((omega);(first|done|fail)));(focus ((omega);(first|done|fail)))));(first|done|fail)));(focus ((repeat (first|exact Ef|refine Eg rfl dK qt rfl ?_|refine GH rfl gM qt rfl ?_|refine GI rfl gM qt rfl ?_|refine GJ rfl dK qt rfl ?_|refine GK rfl gM qt rfl ?_|refine GL rfl gM qt rfl ?_));(first|done|fail))))
   |((with_reducible apply agG (re:=_::_));exact rfl;exact rfl;(focus ((conv=>lhs;whnf);(first|done|fail)));(focus ((conv=>lhs;whnf);(first|done|fail)));exact rfl;exact dK;(focus ((conv=>lhs;whnf);(first|done|fail)));(focus ((repeat (first|exact Ef|refine Eg rfl dK qt rfl ?_|refine GH rfl gM qt rfl ?_|refine GI rfl gM qt rfl ?_|refine GJ rfl dK qt rfl ?_|refine GK rfl gM qt rfl ?_|refine GL rfl gM qt rfl ?_));(first|done|fail))))
   |fail)
  |((with_reducible apply cO.all);intro _)
  |with_reducible apply cO.imp)
 with_reducible exact cO.refl _):p:=h
def go{G G':Prop}(x:G')(r:cO G G':=by exact yX):G:=r.h x
def pO{c:cK}{a:aU}(r:R (λh=>EV P c a h (Ao P (.loop c) K)) B w0 kl F):R (λh=>EV P (.loop c) a h K) B w0 kl F:=λw s=>
 .loop _ (r w s) (λ_ _ hm=>hm) (λo a' h' hm hn=>by
  exact jj)
def nY.sub{F0:ae α}:∀{F:ae α},nY F0 F->Sub F0 F:=λ{F} h=>by
 have:∀k:ae α,(∀x∈k,x∈F)->Sub k F:=by
  intro k;induction k with
  |nil=>intro _;exact .nil
  |cons a k ih=>intro hk;exact .cons (hk a (dP ..)) (ih λx hx=>hk x (dO _ hx))
 exact this F0 h.mem
inductive dI{α:Type}:List α->List α->List α->Prop
 |nil {l:List α}:dI [] l l
 |cons {a:α} {k l m:List α} (h:dI k l m):dI (a::k) l (a::m)
 |self {k:List α}:dI k [] k
 |app {k l:List α}:dI k l (k++l)
def dI.eq:∀{k l m:ae α},dI k l m->k++l=m
 |_,_,_,.nil=>rfl
 |_,_,_,.self=>iH _
 |_,_,_,.app=>rfl
 |_,_,_,.cons h=>by rw[fG,h.eq]
def Vw(h:p:=by intro _ _;repeat (first|exact Ef|refine Eg rfl dK qt rfl ?_|refine GH rfl gM qt rfl ?_|refine GI rfl gM qt rfl ?_|refine GJ rfl dK qt rfl ?_|refine GK rfl gM qt rfl ?_|refine GL rfl gM qt rfl ?_|refine Vu yb rfl ?_)):p:=h
def qb(h:p:=by intro y;repeat (first|exact dI.nil|apply dI.cons|exact dI.self|exact dI.app)):p:=h
def Km(h:p:=by repeat (first|exact uI.nil|(apply uI.drop;exact rfl)|(apply uI.keep;exact rfl))):p:=h
def GN(h:p:=by repeat (first|exact dI.nil|apply dI.cons|exact dI.self|exact dI.app)):p:=h
def GQ(h:p:=by repeat (first|exact trivial|refine⟨rfl,?_⟩)):p:=h
def Kn(h:p:=by dsimp only[rU,Nat.reduceAdd,List.append_nil,List.cons_append,List.nil_append]):p:=h
def Vx(h:p:=by repeat (first|with_reducible exact EvL.nil|((with_reducible apply EvL.cons);(conv=>lhs;whnf)))):p:=h
def Ko(h:p:=by conv=>lhs;(reduce;(try simp only[Int.reduceOfNat,Int.reduceNegSucc]))):p:=h
def Vy(h:p:=by intro z y;repeat (first|exact dI.nil|apply dI.cons|exact dI.self|exact dI.app)):p:=h
def Eh(h:p:=by first|exact .inl rfl|exact .inr rfl):p:=h
def Vz(h:p:=by repeat (first|exact nY.here|apply nY.cons|apply nY.app)):p:=h
section
variable {B:ae Nat} {w0:Wd} {kl kl' bi:ae OA} {F:ae aH} {K:KO} {ds:ae Tmp} {rest:ae bJ} {n:Nat} {l:qr} {D:ae Deferred} {pm:aj FrameMode} {ro:aj Nat} {d:Nat} {g:aj (Tmp×Bool)}
variable{Y:Type}{vs:ae ah}
def jY{f:ak}{xs:ae ak}{re:ae iy}{fn:Fn}{first captured as:ae ah}{k1:ae OA}{F1:ae aH}{val:Y->ah}{k1':Y->ae OA}{fs:Y->ae aH}{pr:Y->Prop}{dR:Y->ae OA}{F2:Y->ae aH}
 (hc:bA P fn as captured k1 F1 val k1' fs pr) (hn:Nat.blt d n=true:=by rfl) (hg:bK l g=true:=by rfl) (hf:ev l f=.func fn ⟨first⟩ ⟨captured⟩:=by rfl) (hx:EvL (ev l) xs vs:=by exact Vx) (ha:first++vs=as:=by rfl)
 (hk:aM k1 kl bi:=by exact l6) (hF:Sub F1 F:=by exact lI)
 (hak:∀y,dI (k1' y) bi (dR y):=by exact qb) (qM:∀y,dI (fs y) F (F2 y):=by exact qb)
 (hs:∀y,pr y->Same P re (ev ((d,val y)::l)) ((d,val y)::l) B w0 (dR y) (F2 y):=by exact Vw)
 (next:∀y,pr y->R (λh=>aK P ds rest (act n ((d,val y)::l) D pm ro) h K) B w0 (dR y) (F2 y)):
 R (λh=>aK P ds (⟨⟨some d,g,.call f xs⟩,re⟩::rest) (act n l D pm ro) h K) B w0 kl F:=
 agI hc hn hg hf hx ha hk hF (λy hy=>by rw[(hak y).eq,(qM y).eq];exact hs y hy) (λy hy=>by rw[(hak y).eq,(qM y).eq];exact next y hy)
abbrev eU(P:Program)(f:eD)(args:ae ah)(F:ae aH)(v:ah):Prop:=bA P (.func f) args [] [] F (λ_:Unit=>v) (λ_=>[]) (λ_=>[]) (λ_=>True)
variable{l0:qr}{args cap:ae ah}{c:cK}{m:Nat}
def nZ{f:eD}{kl:ae OA}{F:ae aH}{val:Y->ah}{kl':Y->ae OA}{fs:Y->ae aH}{pr:Y->Prop}(cf:gK)(hF:(lX P rJ rM).F f=some cf)
 (hb:∀B w0,R (λh=>EV P c (act m l0 [] none none) h (xy cf (Left B w0 val kl' fs pr))) B w0 kl F)
 (h1:cf.body=c:=by exact Ko) (h2:rG cf.ntmps (iI (args++cap))=m:=by conv=>lhs;whnf) (h3:rU 0 (args++cap) []=l0:=by exact Kn):bA P (.func f) args cap kl F val kl' fs pr:=
 agE cf hF (by rw[h1,h2,h3];exact hb)
def gB{kl:ae OA}{F:ae aH}{val:Y->ah}{kl':Y->ae OA}{fs:Y->ae aH}{pr:Y->Prop}(f:eD)(hb:∀B w0,R (λh=>EV P c (act m l0 [] none none) h (xy (oG P f) (Left B w0 val kl' fs pr))) B w0 kl F)(h:(lu P f).isSome=true:=by kernel_rfl)(h1:(oG P f).body=c:=by exact Ko)(h2:rG (oG P f).ntmps (iI (args++cap))=m:=by conv=>lhs;whnf)(h3:rU 0 (args++cap) []=l0:=by exact Kn):bA P (.func f) args cap kl F val kl' fs pr:=nZ _ (uw f h) hb h1 h2 h3
def VA{α:Type}(E:Enc α){x i:ak}{v:ah}{xs:ae α}{size:Nat}{k:Nat}{kk:IntKind}{F2:α->E.Y->ae aH}(hn:Nat.blt d n=true:=by rfl)(hg:bK l g=true:=by rfl)(hx:ev l x=v:=by conv=>lhs;whnf)(hi:ev l i=.int kk (k:Int):=by rfl)
 (hf:aA E v xs∈F:=by exact gM) (hs:E.n=size:=by rfl) (h1:k<xs.length:=by omega)
 (ha:∀z y,dI (E.fs z y) F (F2 z y):=by exact Vy)
 (next:∀b o z y,xs[k]? =some z->R (λh=>aK P ds rest (act n ((d,.pointer (some ⟨b,o,none⟩))::l) D pm ro) h K) B w0 kl (dx b o (E.pat z y)::F2 z y)):
 R (λh=>aK P ds (⟨⟨some d,g,.oz size x i⟩,[]⟩::rest) (act n l D pm ro) h K) B w0 kl F:=
 (O5 hn hg hx hi hf hs p0 p0).h λb o z y hz=>by rw[(ha z y).eq];exact next b o z y sY
def oM{o:Out}{cf:gK}{val:Y->ah}{k1:Y->ae OA}{fs:Y->ae aH}{pr:Y->Prop}(y:Y)
 (hr:RS l kl cf.results vs:=by exact yV) (hv:qL vs=val y:=by rfl) (hp:pr y)
 (hk:aM (k1 y) kl bi:=by exact l6) (hF:Sub (fs y) F:=by exact lI)
 (ho:o=.normal\/o=.ret:=by exact Eh):R (λh=>xy cf (Left B w0 val k1 fs pr) o (act n l [] none ro) h) B w0 kl F:=
 Vv y hr hv hp hk hF ho
def qN{A:OA}{fs F2:ae aH}{Q:IH->Prop}(hA:pM A fs)(hk:aC A kl kl':=by exact dK)(ha:dI fs F F2:=by exact GN)(h:R Q B w0 kl' F2):R Q B w0 kl F:=
 agC hA hk (by rw[ha.eq];exact h)
variable{X:Type}
def dS{c:cK}{L2:X->qr}{wo:X->ae OA}{wu:X->ae aH}(m:X->Nat)(L:X->qr)(KL:X->ae OA)(FF:X->ae aH)(inv:X->Prop)(x0:X)(hi:inv x0)
 (h0:uI l (L x0) l0:=by exact Km) (hl:sub (L x0++l0) l:=by exact GQ)
 (hk:aM (KL x0) kl bi:=by exact l6) (hF:Sub (FF x0) F:=by exact lI)
 (hak:∀x,dI (KL x) bi (wo x):=by exact qb) (qM:∀x,dI (FF x) F (wu x):=by exact qb)
 (hal:∀x,dI (L x) l0 (L2 x):=by exact qb)
 (body:∀x,inv x->R (λh=>EV P c (act n (L2 x) D pm ro) h (wm (LI n D pm ro B w0 m L KL FF inv l0 bi F) (m x) K)) B w0 (wo x) (wu x)):
 R (λh=>EV P (.loop c) (act n l D pm ro) h K) B w0 kl F:=
 agJ m L KL FF inv x0 hi l0 hl hk hF λx hx=>by rw[(hak x).eq,(qM x).eq,(hal x).eq];exact body x hx
def aY{m:X->Nat}{L:X->qr}{KL:X->ae OA}{FF:X->ae aH}{inv:X->Prop}{GR dR:ae OA}{F0:ae aH}{m0:Nat}(x:X)(hm:m x<m0)(hi:inv x)
 (hl:sub (L x++l0) l:=by exact GQ) (ha:dI (KL x) bi GR:=by exact GN)
 (hk:aM GR kl dR:=by exact l6) (hF:Sub (FF x) F:=by exact lI)
 (yU:nY F0 F:=by exact Vz):
 R (λh=>wm (LI n D pm ro B w0 m L KL FF inv l0 bi F0) m0 K .normal (act n l D pm ro) h) B w0 kl F:=
 agK x hm hi hl (by rw[ha.eq];exact hk) hF yU
end
end Go.Ideal
namespace Go.Ideal
class Az (e:Bool) (f t:outParam Prop):Prop where
 no:e=false->f
 yes:e=true->t
instance (priority:=low) arc {e:Bool}:Az e (e=false) (e=true):=⟨id,id⟩
instance ard {p:Prop} {_:Decidable p}:Az (decide p) (¬p) p:=⟨vH,jT⟩
instance arf {p:Prop} {_:Decidable p}:Az (!decide p) p (¬p):=⟨λe=>by simpa using e,λe=>by simpa using e⟩
section
variable {P:Program}
variable {B:ae Nat} {w0:Wd} {kl:ae OA} {F:ae aH} {K:KO} {ds:ae Tmp} {rest:ae bJ} {n:Nat} {l:qr} {D:ae Deferred} {pm:aj FrameMode} {ro:aj Nat} {t1 t2:Nat}
def gG{e:Bool}{f t:Prop}[Az e f t](h1:f->R (λh=>aK P ds rest (act n ((t1,.bool false)::(t2,.bool false)::l) D pm ro) h K) B w0 kl F)(h2:t->R (λh=>aK P ds rest (act n ((t1,.bool true)::(t2,.bool true)::l) D pm ro) h K) B w0 kl F):
 R (λh=>aK P ds rest (act n ((t1,.bool e)::(t2,.bool e)::l) D pm ro) h K) B w0 kl F:=
 GM (λx=>h1 (Az.no x)) (λx=>h2 (Az.yes x))
end
section
instance arh {n:Nat}:OfNat ak n:=⟨.tmp n⟩
abbrev kT:ak:=.const (.bool true)
abbrev vS:ah:=.slice none 0 0
abbrev vE:ah:=.string ⟨⟨[]⟩⟩
abbrev kC(f:Nat)(l:ae ak):aF:=.call (.func f) l
abbrev kS(n:Nat)(e:aF):bJ:=⟨⟨some n,none,e⟩,[]⟩
abbrev kH(n c:Nat)(e:aF):bJ:=⟨⟨some n,some ⟨c,false⟩,e⟩,[]⟩
abbrev kN(e:aF):bJ:=⟨⟨none,none,e⟩,[]⟩
abbrev kM(n:Nat)(x:ak):bJ:=kS n (.mv x)
abbrev kO(l:ae bJ):cK:=.ops (l.filterMap λx=>x.s.dst) l
end
variable {P:Program}
section
variable {B:ae Nat} {w0:Wd} {kl kl' bi:ae OA} {F:ae aH} {K:KO} {ds:ae Tmp} {rest:ae bJ} {n:Nat} {l:qr} {D:ae Deferred} {pm:aj FrameMode} {ro:aj Nat} {d:Nat} {g:aj (Tmp×Bool)}
variable{G:Prop}
def aP{c:ak}{x y:cK}{p:Prop}{ip:Decidable p}(h1:p->R (λh=>EV P x (act n l D pm ro) h K) B w0 kl F)(h2:¬p->R (λh=>EV P y (act n l D pm ro) h K) B w0 kl F)
 (r:cO G (R (λh=>EV P (.cond c x y) (act n l D pm ro) h K) B w0 kl F):=by exact yX) (hc:ev l c=.bool (decide p):=by exact rfl):G:=r.h (uH hc h1 h2)
variable{o:Out}{cf:gK}{vs:ae ah}{val:Unit->ah}{k1:Unit->ae OA}{fs:Unit->ae aH}{pr:Unit->Prop}
def bT(hv:qL vs=val ())(r:cO G (R (λh=>xy cf (Left B w0 val k1 fs pr) o (act n l [] none ro) h) B w0 kl F):=by exact yX)(hr:RS l kl cf.results vs:=by exact yV)(hp:pr ():=by exact trivial)(hk:aM (k1 ()) kl bi:=by exact l6)(hF:Sub (fs ()) F:=by exact lI)(ho:o=.normal\/o=.ret:=by exact Eh):G:=r.h (oM () (hr:=hr) (hv:=hv) (hp:=hp) (hk:=hk) (hF:=hF) (ho:=ho))
def fH(r:cO G (R (λh=>xy cf (Left B w0 val k1 fs pr) o (act n l [] none ro) h) B w0 kl F):=by exact yX)(hr:RS l kl cf.results vs:=by exact yV)(hv:qL vs=val ():=by exact rfl)(hp:pr ():=by exact trivial)(hk:aM (k1 ()) kl bi:=by exact l6)(hF:Sub (fs ()) F:=by exact lI)(ho:o=.normal\/o=.ret:=by exact Eh):G:=r.h (oM () (hr:=hr) (hv:=hv) (hp:=hp) (hk:=hk) (hF:=hF) (ho:=ho))
variable{Y:Type}
def gC
 {f:ak}
 {xs:ae ak}
 {re:ae iy}
 {fn:Fn}
 {first captured vs as:ae ah}
 {k1:ae OA}
 {F1:ae aH}
 {val:Y->ah}
 {k1':Y->ae OA}
 {fs:Y->ae aH}
 {pr:Y->Prop}
 {dR:Y->ae OA}
 {F2:Y->ae aH}
 (hc:bA P fn as captured k1 F1 val k1' fs pr)
 (next:∀y,pr y->R (λh=>aK P ds rest (act n ((d,val y)::l) D pm ro) h K) B w0 (dR y) (F2 y))
 {G:Prop} (r:cO G (R (λh=>aK P ds (⟨⟨some d,g,.call f xs⟩,re⟩::rest) (act n l D pm ro) h K) B w0 kl F):=by exact yX)
 (hn:Nat.blt d n=true:=by rfl)
 (hg:bK l g=true:=by rfl)
 (hf:ev l f=.func fn ⟨first⟩ ⟨captured⟩:=by rfl)
 (hx:EvL (ev l) xs vs:=by exact Vx)
 (ha:first++vs=as:=by rfl)
 (hk:aM k1 kl bi:=by exact l6)
 (hF:Sub F1 F:=by exact lI)
 (hak:∀y,dI (k1' y) bi (dR y):=by exact qb)
 (qM:∀y,dI (fs y) F (F2 y):=by exact qb)
 (hs:∀y,pr y->Same P re (ev ((d,val y)::l)) ((d,val y)::l) B w0 (dR y) (F2 y):=by exact Vw):G:=r.h (jY (hc:=hc) (hn:=hn) (hg:=hg) (hf:=hf) (hx:=hx) (ha:=ha) (hk:=hk) (hF:=hF) (hak:=hak) (qM:=qM) (hs:=hs) (next:=next))
variable{α:Type}
def gX
 {x i:ak}
 {v:ah}
 {xs:ae α}
 {size:Nat}
 {k:Nat}
 {kk:IntKind}
 (E:Enc α)
 {F2:α->E.Y->ae aH}
 (next:∀b o z y,xs[k]? =some z->R (λh=>aK P ds rest (act n ((d,.pointer (some ⟨b,o,none⟩))::l) D pm ro) h K) B w0 kl (dx b o (E.pat z y)::F2 z y))
 {G:Prop} (r:cO G (R (λh=>aK P ds (⟨⟨some d,g,.oz size x i⟩,[]⟩::rest) (act n l D pm ro) h K) B w0 kl F):=by exact yX)
 (hn:Nat.blt d n=true:=by rfl)
 (hg:bK l g=true:=by rfl)
 (hx:ev l x=v:=by conv=>lhs;whnf)
 (hi:ev l i=.int kk (k:Int):=by rfl)
 (hf:aA E v xs∈F:=by exact gM)
 (hs:E.n=size:=by rfl)
 (h1:k<xs.length:=by omega)
 (ha:∀z y,dI (E.fs z y) F (F2 z y):=by exact Vy):G:=r.h (VA (E:=E) (hn:=hn) (hg:=hg) (hx:=hx) (hi:=hi) (hf:=hf) (hs:=hs) (h1:=h1) (ha:=ha) (next:=next))
def gQ
 {o:Out}
 {cf:gK}
 {vs:ae ah}
 {val:Y->ah}
 {k1:Y->ae OA}
 {fs:Y->ae aH}
 {pr:Y->Prop}
 (y:Y)
 (hp:pr y)
 (hr:RS l kl cf.results vs:=by exact yV)
 (hv:qL vs=val y:=by rfl)
 (hk:aM (k1 y) kl bi:=by exact l6)
 (hF:Sub (fs y) F:=by exact lI)
 (ho:o=.normal\/o=.ret:=by exact Eh):R (λh=>xy cf (Left B w0 val k1 fs pr) o (act n l [] none ro) h) B w0 kl F:=oM (y:=y) (hr:=hr) (hv:=hv) (hp:=hp) (hk:=hk) (hF:=hF) (ho:=ho)
def gL{X:Type}
 {c:cK}
 {l0:qr}
 {L2:X->qr}
 {wo:X->ae OA}
 {wu:X->ae aH}
 (m:X->Nat) (L:X->qr) (inv:X->Prop) (x0:X) (hi:inv x0)
 (body:∀x,inv x->R (λh=>EV P c (act n (L2 x) D pm ro) h (wm (LI n D pm ro B w0 m L (λ_=>[]) (λ_=>[]) inv l0 bi F) (m x) K)) B w0 (wo x) (wu x))
 {G:Prop} (r:cO G (R (λh=>EV P (.loop c) (act n l D pm ro) h K) B w0 kl F):=by exact yX)
 (h0:uI l (L x0) l0:=by exact Km)
 (hl:sub (L x0++l0) l:=by exact GQ)
 (hk:aM ([]) kl bi:=by exact l6)
 (hF:Sub ([]) F:=by exact lI)
 (hak:∀x,dI ([]) bi (wo x):=by exact qb)
 (qM:∀x,dI ([]) F (wu x):=by exact qb)
 (hal:∀x,dI (L x) l0 (L2 x):=by exact qb):G:=r.h (dS (m:=m) (L:=L) (KL:=λ_=>[]) (FF:=λ_=>[]) (inv:=inv) (x0:=x0) (hi:=hi) (h0:=h0) (hl:=hl) (hk:=hk) (hF:=hF) (hak:=hak) (qM:=qM) (hal:=hal) (body:=body))
def gN{c:cK}
 {l0:qr}
 {L2:Nat->qr}
 {wo:Nat->ae OA}
 {wu:Nat->ae aH}
 (N q:Nat) (inv:Nat->Prop) (hi:inv 0)
 (body:∀x,inv x->R (λh=>EV P c (act n (L2 x) D pm ro) h (wm (LI n D pm ro B w0 (λk=>N - k) (λk:Nat=>[(q,.int .i64 (k:Int))]) (λ_=>[]) (λ_=>[]) inv l0 bi F) (N - x) K)) B w0 (wo x) (wu x))
 {G:Prop} (r:cO G (R (λh=>EV P (.loop c) (act n l D pm ro) h K) B w0 kl F):=by exact yX)
 (h0:uI l ([(q,.int .i64 ((0:Nat):Int))]) l0:=by exact Km)
 (hl:sub ([(q,.int .i64 ((0:Nat):Int))]++l0) l:=by exact GQ)
 (hk:aM ([]) kl bi:=by exact l6)
 (hF:Sub ([]) F:=by exact lI)
 (hak:∀x,dI ([]) bi (wo x):=by exact qb)
 (qM:∀x,dI ([]) F (wu x):=by exact qb)
 (hal:∀x,dI ([(q,.int .i64 (x:Int))]) l0 (L2 x):=by exact qb):G:=r.h (dS (m:=(λk=>N - k)) (L:=(λk:Nat=>[(q,.int .i64 (k:Int))])) (KL:=λ_=>[]) (FF:=λ_=>[]) (inv:=inv) (x0:=(0:Nat)) (hi:=hi) (h0:=h0) (hl:=hl) (hk:=hk) (hF:=hF) (hak:=hak) (qM:=qM) (hal:=hal) (body:=body))
variable{Q:IH->Prop}
def gF(E:Enc α)(v:ah)(xs:ae α)(h:∀a c,v=.slice a xs.length c->R Q B w0 kl F)(hf:aA E v xs∈F:=by exact gM):R Q B w0 kl F:=agP hf h
variable{F2:ae aH}
def gZ{A:OA}{fs:ae aH}(hA:pM A fs)(h:R Q B w0 kl' F2)(hk:aC A kl kl':=by exact dK)(ha:dI fs F F2:=by exact GN):R Q B w0 kl F:=qN hA hk ha h
def gP{cs:ae ah}(b:Nat)(h:R Q B w0 kl' F2)(hk:aC (pt b (.cells cs)) kl kl':=by exact dK)(ha:dI [dx b 0 cs] F F2:=by exact GN):R Q B w0 kl F:=qN afW hk ha h
def gH{t1 t2:Nat}{e:Bool}{f t:Prop}(h1:f->R (λh=>aK P ds rest (act n ((t1,.bool false)::(t2,.bool false)::l) D pm ro) h K) B w0 kl F)(h2:t->R (λh=>aK P ds rest (act n ((t1,.bool true)::(t2,.bool true)::l) D pm ro) h K) B w0 kl F)
 (r:cO G (R (λh=>aK P ds rest (act n ((t1,.bool e)::(t2,.bool e)::l) D pm ro) h K) B w0 kl F):=by exact yX) (i:Az e f t:=by exact inferInstance):G:=r.h (have _q:Az e f t:=i;gG h1 h2)
abbrev iV(n:Int):ah:=.int .i64 n
abbrev fC(P:Program){Y:Type}(f:eD)(args:ae ah)(F:ae aH)(v:Y->ah)(Q:Y->Prop):Prop:=bA P (.func f) args [] [] F v (λ_=>[]) (λ_=>[]) Q
end
end Go.Ideal
namespace Go.Ideal
noncomputable def Kq(L:Lay):Wd:=⟨kU L,λi=>i<(kU L).next,λ_ h=>h⟩
open Go.ChangeShapes Go.WideShapes Go.ChangeAt Go.RowKit
variable {P:Program}
def Ei{α:Type}(P:Program)(t:aB)(E:Enc α):Prop:=∀(w:Wd) (H:Type) (d:DataW H) (cs:ae ah),(∀i,i<w.h.next->w.z i)->iF P w.h t cs d->∃a y,cs=E.pat a y/\∀f∈E.fs a y,f.p w
def Pb{α:Type}{p:Nat->α->Prop}:∀n,(∀k,k<n->∃a,p k a)->∃l:ae α,l.length=n/\∀(k:Nat) a,l[k]? =some a->p k a
 |0,_=>⟨[],rfl,λk a h=>by cases h⟩
 |n+1,h=>by
  obtain⟨l,h1,h2⟩:=Pb n (λk hk=>h k p0);obtain⟨a,ha⟩:=h n p0;refine⟨l++[a],by simp[h1],λk b hb=>?_⟩;by_cases hk:k<l.length
  .rw[iY hk]at hb;exact h2 k b hb
  .rw[jm p0]at hb;have hk0:k=n:=by have:=(aT.1 hb).1;simp at this;omega
   subst hk0;rw[h1]at hb;simp at hb;subst hb;exact ha
def VB{α β:Type}(E1:Enc α)(E2:Enc β):Enc (α×β):=⟨E1.n+E2.n,E1.Y×E2.Y,λa y=>E1.pat a.1 y.1++E2.pat a.2 y.2,λa y=>E1.fs a.1 y.1++E2.fs a.2 y.2,λa y=>by rw[dL,E1.len,E2.len]⟩
def VC:Enc Unit:=⟨0,Unit,λ_ _=>[],λ_ _=>[],λ_ _=>rfl⟩
inductive Ej(P:Program):{α:Type}->List Field->Enc α->Prop
 |nil:Ej P [] VC
 |cons {α β:Type} {f:Field} {fs:List Field} {E1:Enc α} {E2:Enc β} (h:Ei P f.type E1) (hn:P.cellsOf f.type=E1.n) (t:Ej P fs E2):Ej P (f::fs) (VB E1 E2)
def Ej.Kt{w:Wd}{H:Type}(hz:∀i,i<w.h.next->w.z i):∀{α:Type} {fs:ae Field} {E:Enc α},Ej P fs E->∀(o0:Nat) (cs:ae ah) (ds:ae (DataW H)),cs.length=(fs.map λf=>P.cellsOf f.type).sum->ds.length=fs.length->
 fs.map (·.offset)=sums o0 (fs.map λf=>P.cellsOf f.type)->(∀(j:Nat) f d,fs[j]? =some f->ds[j]? =some d->iF P w.h f.type ((cs.drop (f.offset - o0)).take (P.cellsOf f.type)) d)->∃a y,cs=E.pat a y/\∀f∈E.fs a y,f.p w
 |_,_,_,.nil,o0,cs,ds,h1,h2,h3,h4=>⟨(),(),mo.1 r6,λf hf=>by cases hf⟩
 |_,_,_,.cons (f:=f) (fs:=fs) (E1:=E1) (E2:=E2) h hn t,o0,cs,ds,h1,h2,h3,h4=>by
  match ds,h2 with
  |d::ds,h2=>
   simp only[fK,List.sum_cons,sums,Bw]at h1 h3;obtain⟨ho,h3⟩:=h3;have r0:=h4 0 f d rfl rfl;rw[ho,mM,vI]at r0;obtain⟨a,y,q1,q2⟩:=h w H d _ hz r0;obtain⟨b,z,u1,u2⟩:=Ej.Kt hz t (o0+P.cellsOf f.type) (cs.drop (P.cellsOf f.type)) ds ri sq h3 (λj g e hg he=>by
    exact cH)
   refine⟨(a,b),(y,z),?_,?_⟩
   .show cs=E1.pat a y++E2.pat b z;rw[<- q1,<- u1,qz]
   .exact nh
def Ei.conv{α β:Type}{t:aB}{E:Enc α}{E':Enc β}(h:Ei P t E)(hc:∀a y,∃b z,E.pat a y=E'.pat b z/\E.fs a y=E'.fs b z):Ei P t E':=λw H d cs hz r=>by
 obtain⟨a,y,q1,q2⟩:=h w H d cs hz r;obtain⟨b,z,e1,e2⟩:=hc a y;exact⟨b,z,by rw[q1,e1],λf hf=>q2 f (by rw[e2];exact hf)⟩
section
variable {H:Type} {enc:aB×ah->H} {W:World} {K:aB->Prop}
def xD(P:Program)(w:Wd)(t:aB)(v:ah){H:Type}(d:DataW H):Prop:=∃cs,iF P w.h t cs d/\((kv P t=true/\v=.agg ⟨cs⟩)\/(kv P t=false/\cs=[v]))
variable{α:Type}{w:Wd}{t:aB}{v:ah}{d:DataW H}
def xD.agg{E:Enc α}(h:xD P w t v d)(hz:∀i,i<w.h.next->w.z i)(ha:kv P t=true)(hr:Ei P t E):∃a y,v=.agg ⟨E.pat a y⟩/\∀f∈E.fs a y,f.p w:=by
 exact gg
def xD.one{E:Enc α}(h:xD P w t v d)(hz:∀i,i<w.h.next->w.z i)(ha:kv P t=false)(hr:Ei P t E):∃a y,E.pat a y=[v]/\∀f∈E.fs a y,f.p w:=by
 exact fL
variable{L:Lay}
def agT{v0:ah}(hw:w.h=kU L)(r:Ar P (kU L) t v d)(hv:VR (jX L) v v0)(hok:Value.okWide P W .any 0 t v0):xD P w t v d:=by
 obtain⟨cs,r1,h2,h3⟩:=r;refine⟨cs,by rw[hw];exact r1,?_⟩;cases ha:kv P t with
 |true=>
  left;refine⟨rfl,?_⟩;rcases h3 with e|e
  .subst e;have hagg:∃c,v0=.agg c:=by
    unfold kv at ha;unfold Value.okWide at hok;split at ha
    .rename_i fs hu;exact py
    .rename_i n e hu;exact py
    .cases ha
   obtain⟨c,rfl⟩:=hagg
   exfalso
   cases hv<;>simp[cellV]at h2
  .exact e
 |false=>
  right;refine⟨rfl,?_⟩;rcases h3 with e|e
  .exact e
  .subst e
   exfalso
   cases hv with
   |agg hc hl=>
    cases hu:P.underlying t with
    |none=>simp[Value.okWide,Cell.okWide,Cell.ok,hu]at hok
    |some d=>cases d<;>simp[Value.okWide,Cell.okWide,Cell.ok,kv,hu]at hok ha
def agU{ts:ae aB}{vs' vs:ae ah}(hv:aQ (jX L) vs' vs):∀(j:Nat) v',vs'[j]? =some v'->∃v,vs[j]? =some v/\VR (jX L) v' v:=by
 intro j;induction j generalizing vs' vs with
 |zero=>
  intro v' h;cases hv with
  |nil=>cases h
  |cons h1 h2=>cases h;exact⟨_,rfl,h1⟩
 |succ j ih=>
  intro v' h;cases hv with
  |nil=>cases h
  |cons h1 h2=>exact ih h2 v' h
def Pd{a:Nat}{b:Nat->Bool}{c:Bool}:∀{ts:ae aB} {vs:ae ah} {ds:ae (DataW H)} {ps:ae MemPlace},DataW.TrodAll enc P W a b c ts vs ds ps->vs.length=ts.length/\ds.length=ts.length
 |[],[],[],_,_=>⟨rfl,rfl⟩
 |_::_,_::_,_::_,_,⟨_,_,_,h,_⟩=>by
  have:=Pd h;simp[this.1,this.2]
def VD{l:ae α}(h:l.length=3):∃a b c,l=[a,b,c]:=by
 match l,h with
 |[a,b,c],_=>exact⟨a,b,c,rfl⟩
end
end Go.Ideal
namespace Go.Ideal
variable {P:Program}
def tq(P:Program)(cf:gK)(K:KR):KO:=λo a h=>match vK o with
 |none=>False
 |some m=>LEAVE P cf a.tmps a.defers m h λr h''=>K r a.pm h''
def agV{Y:Type}{f:eD}{args cap:ae ah}{kl:ae OA}{F:ae aH}{val:Y->ah}{kl':Y->ae OA}{fs:Y->ae aH}{pr:Y->Prop}{c:cK}{m:Nat}{l0:qr}(cf:gK)(hF:(lX P rJ rM).F f=some cf)
 (hb:∀B w0,R (λh=>EV P c (act m l0 [] none none) h (tq P cf (Left B w0 val kl' fs pr))) B w0 kl F)
 (h1:cf.body=c:=by exact Ko) (h2:rG cf.ntmps (iI (args++cap))=m:=by conv=>lhs;whnf) (h3:rU 0 (args++cap) []=l0:=by exact Kn):bA P (.func f) args cap kl F val kl' fs pr:=by
 intro B w s;obtain⟨fn,e1,e2⟩:=(rT P rJ rM (λf q h v h' hm=>by cases hm)).fn f cf hF;refine U8 cf fn e1 e2 ?_;rw[O7,h1,h2,h3];exact hb B w w s
section
variable {B:ae Nat} {w0:Wd} {kl kl' bi:ae OA} {F:ae aH} {K:KO} {n:Nat} {l:qr} {D:ae Deferred} {pm:aj FrameMode} {ro:aj Nat}
inductive kK:List OA->List Deferred->List OA->Prop
 |nil {kl:List OA}:kK kl [] kl
 |cons {kl kl' dR:List OA} {r:Nat} {args:Array Value} {D:List Deferred} (h:aC (pt r (.iU true)) kl kl') (t:kK kl' D dR):kK kl ({target:=.collected r,args}::D) dR
def kK.leave{cf:gK}{ts:T ah}{Kr:iL->IH->Prop}:∀{D:ae Deferred} {kl dR:ae OA},kK kl D dR->(∀w',St B w0 dR F w'->∃v,rH cf.results ts w'.h=some v/\Kr (.ok v) w'.h)->∀w,St B w0 kl F w->LEAVE P cf ts D .returning w.h Kr
 |_,_,_,.nil,hk,w,s=>by
  obtain⟨v,h1,h2⟩:=hk w s;exact .ret v h1 h2
 |_,_,_,.cons (r:=r) h t,hk,w,s=>by
  have s1:=s.fu h;refine .coll tc r s1.get.1 ?_;exact kK.leave t hk _ (s1.write (o':=.iU false)).tail
variable{Y:Type}{o:Out}{dR:ae OA}
def agW{cf:gK}{vs:ae ah}{val:Y->ah}{k1:Y->ae OA}{fs:Y->ae aH}{pr:Y->Prop}(y:Y)(hD:kK kl D dR)(hr:RS l dR cf.results vs)(hv:qL vs=val y)(hp:pr y)(hk:aM (k1 y) dR bi)(hF:Sub (fs y) F)
 (ho:o=.normal\/o=.ret):R (λh=>tq P cf (Left B w0 val k1 fs pr) o (act n l D none ro) h) B w0 kl F:=by
 intro w s;have key:LEAVE P cf (iw l) D .returning w.h λr h''=>Left B w0 val k1 fs pr r none h'':=by
  refine kK.leave hD (λw' s'=>⟨val y,?_,rfl,w',y,rfl,((s'.kJ hk).drop).sub hF,rfl,hp⟩) w s;unfold rH;rw[hr.all s',<- hv];exact lP
 rcases ho with rfl|rfl
 .exact key
 .exact key
def xE(L:oC):oC:={L with state:=.busy}
def mO(L:oC)(o:Out):oC:=match o with
 | .normal=>{L with state:=.ready,pending:=none}
 |o=>{L with state:=.done,pending:=some o}
def nL(o:Out):Bool:=match o with
 | .normal=>true
 |_=>false
def Ck(o:Out):Prop:=match o with
 | .panic _=>False
 |_=>True
def Cm{Y:Type}(B:ae Nat)(w0:Wd)(lo:Nat)(L:oC)(out:Y->Out)(k1:Y->ae OA)(fs:Y->ae aH)(pr:Y->Prop):KO:=λo a h=>
 a.defers=[]/\∃(w:Wd) (y:Y),w.h=h/\o=out y/\Ck o/\St B w0 (pt lo (.loop (xE L))::k1 y) (fs y) w/\pr y
def agX{lo:Nat}{L:oC}{out:Y->Out}{k1:Y->ae OA}{fs:Y->ae aH}{pr:Y->Prop}(y:Y)(ho:o=out y)(hn:Ck o)(hp:pr y)(hk:aM (pt lo (.loop (xE L))::k1 y) kl dR)(hF:Sub (fs y) F):
 R (λh=>Cm B w0 lo L out k1 fs pr o (act n l [] none ro) h) B w0 kl F:=λw s=>⟨rfl,w,y,rfl,ho,hn,((s.kJ hk).drop).sub hF,hp⟩
def VE(n:Nat):∀(ps:ae Tmp) (args:ae ah) (l:qr),ps.all (λp=>Nat.blt p n)=true->ps.length=args.length->∃l2,vM n ps args (iw l)=iw l2/\l2=(ps.zip args).reverse++l
 |[],[],l,_,_=>⟨l,rfl,rfl⟩
 |p::ps,v::args,l,h,e=>by
  simp only[Di,dG]at h;obtain⟨l2,h1,h2⟩:=VE n ps args ((p,v)::l) h.2 rB;refine⟨l2,?_,by rw[h2];simp⟩;rw[<- h1];show vM n ps args (cond (Nat.blt p n) ((iw l).set p (some v)) (iw l))=_;rw[h.1];rfl
def VF{f:ak}{ps:ae Tmp}{assign body:cK}{fn:Fn}{first captured:ae ah}{k1:ae OA}{F1:ae aH}{Ku:Y->ah}{out:Y->Out}{k1':Y->ae OA}{fs:Y->ae aH}{pr:Y->Prop}
 (hf:ev l f=.func fn ⟨first⟩ ⟨captured⟩)
 (it:∀lo r,bA P fn (first++[.func (.yield lo) #[] #[]]) captured (pt lo (.loop ⟨.ready,none,iw l,n,ps,assign,body,r⟩)::k1) F1 Ku (λy=>pt lo (.loop (mO ⟨.ready,none,iw l,n,ps,assign,body,r⟩ (out y)))::k1' y) fs pr)
 (hk:aM k1 kl bi) (hF:Sub F1 F)
 (next:∀r y,pr y->R (λh=>K (out y) (act n l ({target:=.collected r,args:= #[]}::D) pm none) h) B w0 (k1' y++(pt r (.iU true)::bi)) (fs y++F)):
 R (λh=>EV P (.rangeFunc f ps assign body) (act n l D pm none) h K) B w0 kl F:=by
 intro w s;let L:Nat->oC:=λr=>⟨.ready,none,iw l,n,ps,assign,body,r⟩
 let r:=w.h.next
 let w1:=w.new (.iU true)
 have s1:St B w0 (pt r (.iU true)::kl) F w1:=s.new _;let lo:=w1.h.next
 let w2:=w1.new (.loop (L r))
 have s2:St B w0 (pt lo (.loop (L r))::pt r (.iU true)::kl) F w2:=s1.new _;have s3:St B w0 ((pt lo (.loop (L r))::k1)++(pt r (.iU true)::bi)) F w2:=s2.kJ (k:=pt lo (.loop (L r))::k1) (kl':=pt r (.iU true)::bi) (.cons .here (by
  have:∀{k kl bi:ae OA} (A:OA),aM k kl bi->aM k (A::kl) (A::bi):=by
   intro k kl bi A h;exact mz
  exact this _ hk))
 obtain⟨S,h1,h2,h3⟩:=s3.own;obtain⟨S1,S2,q1,q2,hp⟩:=h1.kJ (k:=pt lo (.loop (L r))::k1) (kl':=pt r (.iU true)::bi) (by
  have:∀(k kr:ae OA),aM k (k++kr) kr:=by
   intro k kr;induction k with
   |nil=>exact .nil
   |cons A k ih=>exact .cons .here ih
  exact this _ _)
 have hsub:∀i∈S1,i∈S:=λi hi=>hp.mem_iff.2 (jS _ hi);have st1:St S1 w2 (pt lo (.loop (L r))::k1) F1 w2:=⟨⟨bz _,λ_ _ _=>rfl,λ_ _=>rfl⟩,Wd.Le.refl w2,λi _ hz=>.inl hz,⟨S1,q1,(iT.1 (hp.nodup h2)).1,λi hi=>⟨.inr hi,(h3 i (hsub i hi)).2⟩⟩,λf hf=>s2.facts f (hF.mem f hf)⟩
 have hc:=it lo r S1 w2 st1;refine .rangeFunc fn first captured (by rw[nX];exact hf) (act n l ({target:=.collected r,args:= #[]}::D) pm none) w1.h r (.inl ⟨rfl,rfl,rfl,rfl⟩) (Left S1 w2 Ku (λy=>pt lo (.loop (mO (L r) (out y)))::k1' y) fs pr) ?_ ?_ ?_
 .rw[jc];exact hc
 .rintro v pm' h' ⟨rfl,w',y,rfl,c,hv,hpr⟩;have sc:St B w0 ((pt lo (.loop (mO (L r) (out y)))::k1' y)++(pt r (.iU true)::bi)) (fs y++F) w':=s3.call (k1:=pt lo (.loop (L r))::k1) (F1:=F1) ⟨S,hp,h2,h3⟩ q2 c;have hg:=(show St B w0 (pt lo (.loop (mO (L r) (out y)))::(k1' y++(pt r (.iU true)::bi))) (fs y++F) w' from sc).get;refine⟨mO (L r) (out y),hg.1,?_,?_⟩
  .cases out y<;>simp[mO]
  .have e:(mO (L r) (out y)).pending.getD .normal=out y:=by cases out y<;>rfl
   rw[e];exact next r y hpr _ (St.write (o':=.loop {mO (L r) (out y)with state:=.exhausted}) sc).tail
 .rintro ch pm' h' ⟨rfl,w',y,rfl,c,hv,hpr⟩;cases hv
end
end Go.Ideal
namespace Go.Ideal
variable {P:Program}
def iG{S α:Type}(step:S->α->S×Bool):S->ae α->S
 |s,[]=>s
 |s,x::xs=>match step s x with
  |(s',true)=>iG step s' xs
  |(s',false)=>s'
def jF{S α:Type}(step:S->α->S×Out):S->ae α->S×Out
 |s,[]=>(s,.normal)
 |s,x::xs=>match step s x with
  |(s',.normal)=>jF step s' xs
  |(s',o)=>(s',o)
def Sub.refl'{α:Type}:∀(l k:ae α),Sub l (k++l)
 |[],_=>.nil
 |a::l,k=>.cons (ou _ (dP ..)) (by have:=Sub.refl' l (k++[a]);rwa [fq]at this)
def Sub.app{α:Type}:∀{k1 k2 l:ae α},Sub k1 l->Sub k2 l->Sub (k1++k2) l
 |_,_,_,.nil,h=>h
 |_,_,_,.cons h h1,h2=>.cons h (h1.app h2)
section
variable {B:ae Nat} {w0:Wd} {kl kl' bi:ae OA} {F:ae aH} {K:KO} {n:Nat} {l:qr} {D:ae Deferred} {pm:aj FrameMode} {ro:aj Nat}
def Pe{S α:Type}{step:S->α->S×Out}:∀(xs:ae α) (s:S),iG (λ(so:S×Out) x=>(step so.1 x,nL (step so.1 x).2)) (s,Out.normal) xs=jF step s xs
 |[],s=>rfl
 |x::xs,s=>by
  have ih:=Pe (step:=step) xs;simp only[iG,jF];cases h:step s x with
  |mk s' o=>
   cases o with
   |normal=>simp only[nL];exact ih s'
   |_=>simp only[nL]
end
end Go.Ideal
namespace Go.Ideal
variable {P:Program} {ρ:ak->ah}
def wrapN{m:Nat}(h:m<9223372036854775808):IntKind.i64.wrap (m:Int)=m:=wrap64 p0 p0
variable{a b:Nat}{x y:ak}{t:aB}
def Kv(hx:ρ x=.int .i64 (a:Int))(hy:ρ y=.int .i64 (b:Int))(hb:b<64):Pu P ρ (.bin .shr t x y) (.int .i64 ((a>>>b:Nat):Int)):=λh=>by
 simp only[aF.run,hx,hy];rw[Cj (op:=.shr) (v:=.int .i64 ((a>>>b:Nat):Int)) rfl (by
  show bX P (Op.shift .shr .i64 a .i64 b)=_;unfold Op.shift;rw[if_neg p0];show some (Value.int .i64 ((a:Int).fdiv (2^(min (b:Int).toNat 64))))=_;exact eR) rfl]
def agY(hx:ρ x=.int .i64 (a:Int))(hy:ρ y=.int .i64 (b:Int))(hb:b<64)(hr:a<<<b<9223372036854775808):Pu P ρ (.bin .shl t x y) (.int .i64 ((a<<<b:Nat):Int)):=λh=>by
 simp only[aF.run,hx,hy];rw[Cj (op:=.shl) (v:=.int .i64 ((a<<<b:Nat):Int)) rfl (by
  show bX P (Op.shift .shl .i64 a .i64 b)=_;unfold Op.shift;rw[if_neg p0];show some (Value.int .i64 (IntKind.i64.wrap ((a:Int)*2^(min (b:Int).toNat 64))))=_;rw[show min (b:Int).toNat 64=b by simp;omega];rw[show((a:Int)*2^b)=((a<<<b:Nat):Int)by rw[Nat.shiftLeft_eq];simp,wrapN hr]) rfl]
def Kw(h:a<9223372036854775808):(BitVec.ofInt 64 (a:Int)).toNat=a:=by
 simp[BitVec.toNat_ofInt];omega
def Ky(hx:ρ x=.int .i64 (a:Int))(hy:ρ y=.int .i64 (b:Int))(ha:a<9223372036854775808)(hb:b<9223372036854775808):Pu P ρ (.bin .and t x y) (.int .i64 ((a&&&b:Nat):Int)):=λh=>by
 simp only[aF.run,hx,hy];rw[Cj (op:=.and) (v:=.int .i64 ((a&&&b:Nat):Int)) rfl (by
  show bX P (Op.intBits .and .i64 a b)=_;show some (Value.int .i64 (IntKind.i64.wrap ((BitVec.ofInt 64 (a:Int)&&&BitVec.ofInt 64 (b:Int)).toNat:Int)))=_;rw[BitVec.toNat_and,Kw ha,Kw hb,wrapN (Ng Nat.and_le_left ha)]) rfl]
def agZ(hx:ρ x=.int .i64 (a:Int))(hy:ρ y=.int .i64 (b:Int))(ha:a<9223372036854775808)(hb:b<9223372036854775808):Pu P ρ (.bin .or t x y) (.int .i64 ((a|||b:Nat):Int)):=λh=>by
 simp only[aF.run,hx,hy];rw[Cj (op:=.or) (v:=.int .i64 ((a|||b:Nat):Int)) rfl (by
  show bX P (Op.intBits .or .i64 a b)=_;show some (Value.int .i64 (IntKind.i64.wrap ((BitVec.ofInt 64 (a:Int)|||BitVec.ofInt 64 (b:Int)).toNat:Int)))=_;have:a|||b<2^63:=Nat.or_lt_two_pow p0 p0;rw[BitVec.toNat_or,Kw ha,Kw hb,wrapN p0]) rfl]
end Go.Ideal
namespace Go.Ideal
variable {P:Program}
def GU{X:Type}(f:X->ae OA):OA:=⟨λw S=>∃x,fA w (f x) S,λa h ⟨x,hx⟩=>⟨x,fA.loc a h hx⟩⟩
def Em{ρ:ak->ah}{x y:ak}{a b:Int}(hx:ρ x=.int .i64 a)(hy:ρ y=.int .i64 b):Pu P ρ (.BH false [x,y]) (.int .i64 (min a b)):=λh=>by
 have e:lq ρ [x,y]=[.int .i64 a,.int .i64 b]:=by rw[vN];simp[hx,hy]
 simp only[aF.run,e,qD,cond];by_cases hb:a<=b
 .rw[uz,fo hb,Int.min_eq_left hb]
 .have:leZ a b=false:=by rw[uz,di hb]
  rw[this,Int.min_eq_right p0]
section
variable {B:ae Nat} {w0:Wd} {kl kl' bi:ae OA} {F:ae aH} {K:KO} {n:Nat} {l:qr} {D:ae Deferred} {pm:aj FrameMode} {ro:aj Nat}
variable{X:Type}{Q:IH->Prop}
def AA{f:X->ae OA}{dR:X->ae OA}(hk:aC (GU f) kl kl':=by exact dK)(ha:∀x,dI (f x) kl' (dR x):=by intro x;repeat (first|exact dI.nil|apply dI.cons|exact dI.self|exact dI.app))(h:∀x,R Q B w0 (dR x) F):R Q B w0 kl F:=λw s=>by
 obtain⟨S,⟨S1,S2,⟨x,q1⟩,q2,e⟩,h2,h3⟩:=(s.fu hk).own;refine h x w ?_;rw[<- (ha x).eq];exact⟨s.agree,s.le,s.eT,⟨S,by rw[e];exact q1.app q2,h2,h3⟩,s.facts⟩
def yY(f:X->ae OA)(x:X){Q:IH->Prop}(hk:aM (f x) kl bi:=by exact l6)(h:R Q B w0 (GU f::bi) F):R Q B w0 kl F:=λw s=>by
 obtain⟨S,h1,h2,h3⟩:=s.own;obtain⟨S1,S2,q1,q2,hp⟩:=h1.kJ hk;exact h w ⟨s.agree,s.le,s.eT,⟨S1++S2,⟨S1,S2,⟨x,q1⟩,q2,rfl⟩,hp.nodup h2,λi hi=>h3 i (hp.mem_iff.2 hi)⟩,s.facts⟩
def iN(g:aH)(hg:∀w:Wd,(∀f∈F,f.p w)->g.p w)(h:R Q B w0 kl (g::F)):R Q B w0 kl F:=λw s=>
 h w ⟨s.agree,s.le,s.eT,s.own,λf hf=>by
  rcases bN.1 hf with rfl|hf
  .exact hg w s.facts
  .exact s.facts f hf⟩
variable{α:Type}
def ag0{E:Enc α}{w:Wd}{b f c:Nat}{v:ah}{xs:ae α}(h1:(dx b 0 [v]).p w)(h2:(aA E v xs).p w)(hc:1<=c:=by first|exact bz _|omega)(hf:f=0\/f=1:=by exact Eh):(aA (az E) (.slice (some ⟨b,0,some f⟩) 1 c) [xs]).p w:=by
 obtain⟨cells,q1,q2⟩:=h1;refine .inr ⟨b,0,f,c,cells,⟨rfl,hc,hf⟩,q1,λk x hk=>?_⟩;match k,hk with
 |0,hk=>
  cases hk;refine⟨v,λj u hj=>?_,λg hg=>by rw[bF.1 hg];exact h2⟩;have:=q2 j u hj;simpa using this
variable{Y:Type}
def GV{f:eD}{args cap:ae ah}{kl:ae OA}{F:ae aH}{val:Y->ah}{kl':Y->ae OA}{fs:Y->ae aH}{pr:Y->Prop}{c:cK}{m:Nat}{l0:qr}(cf:gK)(hF:(lX P rJ rM).F f=some cf)
 (hb:∀B w0,R (λh=>EV P c (act m l0 [] none none) h (tq P cf (Left B w0 val kl' fs pr))) B w0 kl F)
 (h1:cf.body=c:=by exact Ko) (h2:rG cf.ntmps (iI (args++cap))=m:=by conv=>lhs;whnf) (h3:rU 0 (args++cap) []=l0:=by exact Kn):bA P (.func f) args cap kl F val kl' fs pr:=
 agV cf hF hb h1 h2 h3
variable{dR:ae OA}
def Cn{o:Out}{cf:gK}{vs:ae ah}{val:Y->ah}{k1:Y->ae OA}{fs:Y->ae aH}{pr:Y->Prop}(y:Y)(hD:kK kl D dR:=by repeat (first|exact kK.nil|(apply kK.cons;(focus (repeat (first|with_reducible exact aC.here|with_reducible apply aC.there|with_reducible apply aC.app))))))
 (hr:RS l dR cf.results vs:=by exact yV) (hv:qL vs=val y) (hp:pr y)
 (hk:aM (k1 y) dR bi:=by exact l6) (hF:Sub (fs y) F:=by exact lI)
 (ho:o=.normal\/o=.ret:=by exact Eh):R (λh=>tq P cf (Left B w0 val k1 fs pr) o (act n l D none ro) h) B w0 kl F:=
 agW y hD hr hv hp hk hF ho
def AB{lo:Nat}{L:oC}{out:Y->Out}{k1:Y->ae OA}{fs:Y->ae aH}{pr:Y->Prop}{o:Out}(y:Y)(ho:o=out y)(hn:Ck o)(hp:pr y)
 (hk:aM (pt lo (.loop (xE L))::k1 y) kl dR:=by exact l6) (hF:Sub (fs y) F:=by exact lI):
 R (λh=>Cm B w0 lo L out k1 fs pr o (act n l [] none ro) h) B w0 kl F:=agX y ho hn hp hk hF
def l7(E:Enc α){ds:ae Tmp}{rest:ae bJ}{d:Nat}{g:aj (Tmp×Bool)}{e:aB}{size bytes b':Nat}{s x:ak}{v:ah}{xs:ae α}(a:α)(y:E.Y){cs:ae ah}{k1 k2:ae OA}
 (hm:(xs.length+1)*bytes<=1073741824/\(xs.length+1)*size<=1073741824/\xs.length+1<=1073741824)
 (next:∀ad,R (λh=>aK P ds rest (act n ((d,.slice ad (xs.length+1) (xs.length+1))::l) D pm ro) h K) B w0 (ap E (.slice ad (xs.length+1) (xs.length+1)) (xs++[a])::k2) F)
 (hn:Nat.blt d n=true:=by rfl) (hg:bK l g=true:=by rfl)
 (hs:ev l s=v:=by conv=>lhs;whnf) (hx:ev l x=.slice (some ⟨b',0,some 0⟩) 1 1:=by rfl) (hk:aC (ap E v xs) kl k1:=by exact dK) (hc:aC (pt b' (.cells cs)) k1 k2:=by exact dK) (hp:cs=E.pat a y:=by rfl) (hF:Sub (E.fs a y) F:=by exact lI) (hz:E.n=size:=by rfl):
 R (λh=>aK P ds (⟨⟨some d,g,.append e size bytes s x⟩,[]⟩::rest) (act n l D pm ro) h K) B w0 kl F:=
 (agD hn hg hs hx hk hc hp hF hz hm).h λv' w st=>by
   obtain⟨S,⟨S1,S2,q,_⟩,_⟩:=st.own;obtain⟨ad,e⟩:=O4 q;rw[dL,qA]at e;subst e;exact next ad w st
section
variable {ds:ae Tmp} {rest:ae bJ} {d:Nat} {g:aj (Tmp×Bool)}
variable{x y:ak}
def ww{e:aB}{size bytes:Nat}{zero:ae ah}(m:Nat)(hm:m*bytes<=1073741824/\m*size<=1073741824/\m<=1073741824)
 (next:∀b,R (λh=>aK P ds rest (act n ((d,.slice (some ⟨b,0,some 0⟩) m m)::l) D pm ro) h K) B w0 (pt b (.cells (zeros zero m))::kl) F)
 (hx:ev l x=.int .i64 (m:Int):=by rfl) (hy:ev l y=.int .i64 (m:Int):=by rfl) (hn:Nat.blt d n=true:=by rfl) (hg:bK l g=true:=by rfl):
 R (λh=>aK P ds (⟨⟨some d,g,.zY e size bytes zero x y⟩,[]⟩::rest) (act n l D pm ro) h K) B w0 kl F:=(agt hn hg hx hy hm).h next
variable{b o:Nat}{cs:ae ah}
def jG{cs':ae ah}{v:ah}(hs:cs.set o v=cs')(ho:o<cs.length)
 (next:R (λh=>aK P ds rest (act n l D pm ro) h K) B w0 (pt b (.cells cs')::kl') F)
 (hx:ev l x=.pointer (some ⟨b,o,none⟩):=by rfl) (hy:ev l y=v:=by rfl) (hv:cellsOf v=some [v]:=by rfl) (hk:aC (pt b (.cells cs)) kl kl':=by exact dK) (hg:bK l g=true:=by rfl):
 R (λh=>aK P ds (⟨⟨none,g,.store 1 x y⟩,[]⟩::rest) (act n l D pm ro) h K) B w0 kl F:=by subst hs;exact(agx hg hx hy hv hk ho).h next
def oN(v:ah)(hv:cs[o]? =some v)
 (next:R (λh=>aK P ds rest (act n ((d,v)::l) D pm ro) h K) B w0 kl F)
 (hx:ev l x=.pointer (some ⟨b,o,none⟩):=by rfl) (hk:aC (pt b (.cells cs)) kl kl':=by exact dK) (hn:Nat.blt d n=true:=by rfl) (hg:bK l g=true:=by rfl):
 R (λh=>aK P ds (⟨⟨some d,g,.gJ x⟩,[]⟩::rest) (act n l D pm ro) h K) B w0 kl F:=(agy hn hg hx hk hv).h next
end
end
end Go.Ideal
namespace Go.Ideal
open Go.ChangeShapes Go.WideShapes Go.ChangeAt Go.RowKit
variable {P:Program}
def jZ{α:Type}(P:Program)(t:aB)(E:Enc α)(G:α->Prop):Prop:=∀(w:Wd) (H:Type) (d:DataW H) (cs:ae ah),(∀i,i<w.h.next->w.z i)->iF P w.h t cs d->∃a y,cs=E.pat a y/\(∀f∈E.fs a y,f.p w)/\G a
def kV(n:Int):Prop:= -9223372036854775808<=n/\n<9223372036854775808
def rV{α:Type}(G:α->Prop)(xs:ae α):Prop:=xs.length<9223372036854775808/\∀x∈xs,G x
variable{t:aB}
def ag1(ht:P.underlying t=some (.int .i64)):jZ P t ai kV:=λw H d cs hz r=>by
 obtain⟨n,rfl,_,h⟩:=r.mq ht;refine⟨n,(),rfl,(λf hf=>by cases hf),?_⟩;simp only[Lit.wf,IntKind.min,IntKind.max,IntKind.signed,IntKind.bits,dG,Dl]at h;simp at h;exact⟨p0,p0⟩
def ag2(ht:P.underlying t=some .string):jZ P t dF (λ_=>True):=λw H d cs hz r=>by
 obtain⟨n,rfl,_⟩:=r.Ae ht;exact⟨n,(),rfl,(λf hf=>by cases hf),trivial⟩
variable{α:Type}
def AC{e:aB}{E:Enc α}{G:α->Prop}(ht:P.underlying t=some (.slice e))(hn:P.cellsOf e=E.n)(he:jZ P e E G):jZ P t (az E) (rV G):=λw H d cs hz r=>by
 rcases r.mD ht with⟨rfl,_⟩|⟨i,n,c,cells,els,rest,rfl,_,hnc,hl,hcl,hel⟩
 .exact⟨[],_,rfl,(λf hf=>by rw[bF.1 hf];exact .inl ⟨rfl,none,0,rfl,trivial⟩),qe,λx hx=>by cases hx⟩
 .have hmax:maxLen=9223372036854775807:=by decide
  obtain⟨xs,hx1,hx2⟩:=Pb (p:=λk a=>(∃y,(cells.drop (k*E.n)).take E.n=E.pat a y/\∀f∈E.fs a y,f.p w)/\G a) n (λk hk=>by
   have hk':k<els.length:=p0
   have:=hel k els[k] (bH hk');rw[hn]at this;obtain⟨a,y,q1,q2,q3⟩:=he w H _ _ hz this;exact⟨a,⟨y,q1,q2⟩,q3⟩)
  refine⟨xs,_,rfl,λf hf=>?_,p0,λx hx=>?_⟩
  .rw[bF.1 hf];rcases hcl with h0|hcl
   .left;have:xs=[]:=mo.1 p0;exact⟨this,some ⟨i,0,some 0⟩,c,by rw[h0],Or.inl rfl⟩
   .right;refine⟨i,0,0,c,cells,⟨by rw[hx1],by rw[hx1];exact hnc.1,.inl rfl⟩,⟨hz i hcl.1,hcl.2⟩,λk x hk=>?_⟩;obtain⟨⟨y,q1,q2⟩,_⟩:=hx2 k x hk;refine⟨y,λj u hj=>?_,q2⟩;rw[<- q1,qy]at hj;split at hj
    .rw[jR]at hj;rw[eB];exact hj
    .cases hj
  .obtain⟨k,hk⟩:=ik hx;exact(hx2 k x hk).2
inductive Co(P:Program):{α:Type}->List Field->Enc α->(α->Prop)->Prop
 |nil:Co P [] VC (λ_=>True)
 |cons {α β:Type} {f:Field} {fs:List Field} {E1:Enc α} {E2:Enc β} {G1:α->Prop} {G2:β->Prop} (h:jZ P f.type E1 G1) (hn:P.cellsOf f.type=E1.n) (t:Co P fs E2 G2):Co P (f::fs) (VB E1 E2) (λx=>G1 x.1/\G2 x.2)
def Co.Kt{w:Wd}{H:Type}(hz:∀i,i<w.h.next->w.z i):∀{α:Type} {fs:ae Field} {E:Enc α} {G:α->Prop},Co P fs E G->∀(o0:Nat) (cs:ae ah) (ds:ae (DataW H)),cs.length=(fs.map λf=>P.cellsOf f.type).sum->ds.length=fs.length->
 fs.map (·.offset)=sums o0 (fs.map λf=>P.cellsOf f.type)->(∀(j:Nat) f d,fs[j]? =some f->ds[j]? =some d->iF P w.h f.type ((cs.drop (f.offset - o0)).take (P.cellsOf f.type)) d)->∃a y,cs=E.pat a y/\(∀f∈E.fs a y,f.p w)/\G a
 |_,_,_,_,.nil,o0,cs,ds,h1,h2,h3,h4=>⟨(),(),mo.1 r6,(λf hf=>by cases hf),trivial⟩
 |_,_,_,_,.cons (f:=f) (fs:=fs) (E1:=E1) (E2:=E2) h hn t,o0,cs,ds,h1,h2,h3,h4=>by
  match ds,h2 with
  |d::ds,h2=>
   simp only[fK,List.sum_cons,sums,Bw]at h1 h3;obtain⟨ho,h3⟩:=h3;have r0:=h4 0 f d rfl rfl;rw[ho,mM,vI]at r0;obtain⟨a,y,q1,q2,q3⟩:=h w H d _ hz r0;obtain⟨b,z,u1,u2,u3⟩:=Co.Kt hz t (o0+P.cellsOf f.type) (cs.drop (P.cellsOf f.type)) ds ri sq h3 (λj g e hg he=>by
    exact cH)
   refine⟨(a,b),(y,z),?_,?_,q3,u3⟩
   .show cs=E1.pat a y++E2.pat b z;rw[<- q1,<- u1,qz]
   .exact nh
def Cq{fs:Array Field}{E:Enc α}{G:α->Prop}(ht:P.underlying t=some (.struct fs))(ho:fs.toList.map (·.offset)=sums 0 (fs.toList.map λf=>P.cellsOf f.type))
 (hs:P.cellsOf t=(fs.toList.map λf=>P.cellsOf f.type).sum) (h:Co P fs.toList E G):jZ P t E G:=λw H d cs hz r=>by
 obtain⟨ds,_,h1,h2,h3⟩:=r.Vj ht;refine h.Kt hz 0 cs ds (by rw[h1,hs]) sq ho λj f d hf hd=>?_;rw[yg];exact h3 j f d (by rw[<- yc];exact hf) hd
def jZ.conv{β:Type}{E:Enc α}{E':Enc β}{G:α->Prop}{G':β->Prop}(h:jZ P t E G)(hc:∀a y,G a->∃b z,E.pat a y=E'.pat b z/\E.fs a y=E'.fs b z/\G' b):jZ P t E' G':=λw H d cs hz r=>by
 obtain⟨a,y,q1,q2,q3⟩:=h w H d cs hz r;obtain⟨b,z,e1,e2,e3⟩:=hc a y q3;exact⟨b,z,by rw[q1,e1],(λf hf=>q2 f (by rw[e2];exact hf)),e3⟩
section
variable {H:Type}
variable{α:Type}{w:Wd}{t:aB}{v:ah}{d:DataW H}
def xD.VG{E:Enc α}{G:α->Prop}(h:xD P w t v d)(hz:∀i,i<w.h.next->w.z i)(ha:kv P t=true)(hr:jZ P t E G):∃a y,v=.agg ⟨E.pat a y⟩/\(∀f∈E.fs a y,f.p w)/\G a:=by
 exact gg
def xD.oneG{E:Enc α}{G:α->Prop}(h:xD P w t v d)(hz:∀i,i<w.h.next->w.z i)(ha:kv P t=false)(hr:jZ P t E G):∃a y,E.pat a y=[v]/\(∀f∈E.fs a y,f.p w)/\G a:=by
 exact fL
end
end Go.Ideal
namespace Go.Ideal
variable {P:Program}
def fA.Pf{w:Wd}{A:OA}:∀{kl kl':ae OA} {S:ae Nat},aC A kl kl'->fA w (A::kl') S->∃S',fA w kl S'/\S.Perm S'
 |_,_,S,.here,h=>⟨S,h,.refl _⟩
 |_,_,_,.there (C:=C) (l:=l) (l':=l') s,⟨S1,S2,h1,⟨T1,T2,h2,h3,e2⟩,e⟩=>by
  subst e e2;obtain⟨S',q1,q2⟩:=fA.Pf (w:=w) (A:=A) s ⟨S1,T2,h1,h3,rfl⟩;refine⟨T1++S',⟨T1,S',h2,q1,rfl⟩,?_⟩;have:(S1++(T1++T2)).Perm (T1++(S1++T2)):=by
   exact mC
  exact this.trans (q2.append_left T1)
def aC.at{α:Type}{a:α}:∀{l:ae α} {k:Nat},l[k]? =some a->aC a l (l.eraseIdx k)
 |[],k,h=>by simp at h
 |b::l,0,h=>by
  simp at h;subst h;exact .here
 |b::l,k+1,h=>.there (aC.at (l:=l) (k:=k) qS)
def VH{α:Type}(a:α):∀(l:ae α) (k:Nat),(l.set k a).eraseIdx k=l.eraseIdx k
 |[],k=>rfl
 |b::l,0=>rfl
 |b::l,k+1=>by simp[VH a l k]
def R.perm{B:ae Nat}{w0:Wd}{kl dR:ae OA}{F:ae aH}{Q:IH->Prop}(hp:∀w S,fA w kl S->∃S',fA w dR S'/\S.Perm S')(h:R Q B w0 dR F):R Q B w0 kl F:=λw s=>by
 obtain⟨S,h1,h2,h3⟩:=s.own;obtain⟨S',q1,q2⟩:=hp w S h1;exact h w ⟨s.agree,s.le,s.eT,⟨S',q1,q2.nodup h2,λi hi=>h3 i (q2.mem_iff.2 hi)⟩,s.facts⟩
section
variable {B:ae Nat} {w0:Wd} {kl kl' bi k1 k2:ae OA} {F:ae aH} {K:KO} {n:Nat} {l:qr} {D:ae Deferred} {pm:aj FrameMode} {ro:aj Nat} {Q:IH->Prop}
end
end Go.Ideal
namespace Go.Ideal
noncomputable def En:Nat->T bG->T bG->Bool
 |0,_,_=>false
 |n+1,a,b=>match a,b with
  | .leaf,.leaf=>true
  | .node v l r,.node v' l' r'=>(match v,v' with
    |none,none=>true
    |some o,some o'=>JA o o'
    |_,_=>false)&&(En n l l'&&En n r r')
  |_,_=>false
def Pg:∀(n:Nat) {a b:T bG},En n a b=true->a=b
 |0,_,_,h=>by cases h
 |n+1,a,b,h=>by
  unfold En at h;split at h
  .rfl
  .simp only[dG]at h;obtain⟨h1,h2,h3⟩:=h;rw[Pg n h2,Pg n h3];split at h1
   .rfl
   .rw[UX h1]
   .cases h1
  .cases h
variable {P:Program}
def Ph{X:Type}(n:Nat)(D:ae Deferred)(pm:aj FrameMode)(ro:aj Nat)(B:ae Nat)(w0:Wd)(L:X->qr)(KL:X->ae OA)(FF:X->ae aH)(inv:X->Prop)(l0:qr)(bi:ae OA)(F0:ae aH)(K:KO):KO:=λo a h=>
 match o with
 | .normal=>∃(x:X) (l:qr) (w:Wd),a=act n l D pm ro/\sub (L x++l0) l/\w.h=h/\St B w0 (KL x++bi) (FF x++F0) w/\inv x
 |o=>K o a h
section
variable {B:ae Nat} {w0:Wd} {kl kl' bi k1 k2:ae OA} {F:ae aH} {K:KO} {n:Nat} {l:qr} {D:ae Deferred} {pm:aj FrameMode} {ro:aj Nat} {Q:IH->Prop}
section
variable {X:Type} {n2:Nat} {D2:ae Deferred} {pm2:aj FrameMode} {ro2:aj Nat} {B2:ae Nat} {w2:Wd} {L:X->qr} {KL:X->ae OA} {FF:X->ae aH} {inv:X->Prop} {l0:qr} {F0:ae aH}
def ag5{a:aU}{ch:ae PanicEntry}(h:R (λh=>K (.panic ch) a h) B w0 kl F):R (λh=>Ph n2 D2 pm2 ro2 B2 w2 L KL FF inv l0 bi F0 K (.panic ch) a h) B w0 kl F:=h
def Kz{GR dR:ae OA}(x:X)(hi:inv x)(hl:sub (L x++l0) l:=by exact GQ)
 (ha:dI (KL x) bi GR:=by exact GN)
 (hk:aM GR kl dR:=by exact l6) (hF:Sub (FF x) F:=by exact lI)
 (yU:nY F0 F:=by exact Vz):
 R (λh=>Ph n D pm ro B w0 L KL FF inv l0 bi F0 K .normal (act n l D pm ro) h) B w0 kl F:=λw s=>by
 refine⟨x,l,w,rfl,hl,rfl,?_,hi⟩;have s':=(s.kJ hk).drop;rw[<- ha.eq]at s';exact⟨s'.agree,s'.le,s'.eT,s'.own,λf hf=>(fO.1 hf).elim (λhf=>s.facts f (hF.mem f hf)) (λhf=>s.facts f (yU.mem f hf))⟩
end
def VI{X:Type}{x y:cK}{l0:qr}{L2:X->qr}{wo:X->ae OA}{wu:X->ae aH}(ks:ae Nat)(L:X->qr)(KL:X->ae OA)(FF:X->ae aH)(inv:X->Prop)
 (hx:R (λh=>EV P x (act n l D pm ro) h (Ph n D pm ro B w0 L KL FF inv l0 bi F K)) B w0 kl F)
 (hy:∀z,inv z->R (λh=>EV P y (act n (L2 z) D pm ro) h K) B w0 (wo z) (wu z))
 (h0:uI l (ks.map λk=>(k,um)) l0:=by exact Km)
 (hal:∀x,dI (L x) l0 (L2 x):=by exact qb)
 (hak:∀x,dI (KL x) bi (wo x):=by exact qb) (qM:∀x,dI (FF x) F (wu x):=by exact qb):
 R (λh=>EV P x (act n l D pm ro) h (Ao P y K)) B w0 kl F:=λw s=>by
 refine OB (hx w s) _ ?_;intro o a h hm;cases o with
 |normal=>
  obtain⟨z,l',w',rfl,hl,rfl,s',hz⟩:=hm;have:=hy z hz;rw[<- (hak z).eq,<- (qM z).eq,<- (hal z).eq]at this;exact UU (OG hl) (this w' s')
 |exit j=>exact hm
 |ret=>exact hm
 |panic ch=>exact hm
end
end Go.Ideal
namespace Go.Ideal
variable {P:Program}
def VJ{n k:Nat}(h:k<=n):upTo n (.int .i64 (k:Int))=some k:=by
 show cond (Nat.ble k n) (some k) none=_;rw[show Nat.ble k n=true from by rw[sO];exact h];rfl
section
variable {B:ae Nat} {w0:Wd} {kl kl' bi k1 k2:ae OA} {F:ae aH} {K:KO} {n:Nat} {l:qr} {D:ae Deferred} {pm:aj FrameMode} {ro:aj Nat} {Q:IH->Prop} {ds:ae Tmp} {rest:ae bJ} {d:Nat} {g:aj (Tmp×Bool)}
end
