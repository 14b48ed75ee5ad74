/- Part. -/
import Derived.Test.YtoilpafpgndilaaGreatIdealIJ
set_option linter.all false
namespace Go.Ideal
variable{p:Prop}
def mo(h:p:=by repeat (first|exact Sub.nil|(apply Sub.cons;(focus ((repeat (first|with_reducible exact dD .. |with_reducible apply dB));first|done|fail)))|exact qa.sub (by repeat (first|with_reducible exact qa.here|with_reducible apply qa.cons|with_reducible apply qa.app)))):p:=h
def mW(h:p:=by repeat (first|exact aF.nil|(apply aF.cons;(focus (repeat (first|with_reducible exact aB.here|with_reducible apply aB.there|with_reducible apply aB.app))))|with_reducible exact aF.all _|with_reducible exact aF.self _ _|with_reducible apply aF.there)):p:=h
def dU(h:p:=by repeat (first|with_reducible exact aB.here|with_reducible apply aB.there|with_reducible apply aB.app)):p:=h
def AX(h:p:=by repeat (first|exact RS.nil|(apply RS.tmp;(conv=>lhs;whnf))|(apply RS.cell1;(focus exact rfl);(focus (repeat (first|with_reducible exact aB.here|with_reducible apply aB.there|with_reducible apply aB.app)));(conv=>lhs;whnf))|(apply RS.pV;(focus exact rfl);(focus (repeat (first|with_reducible exact aB.here|with_reducible apply aB.there|with_reducible apply aB.app)));(conv=>lhs;whnf)))):p:=h
def iN(h:p:=by(repeat (first|with_reducible exact dD .. |with_reducible apply dB));first|done|fail):p:=h
variable {P:Program}
section
variable {B:ae Nat} {w0:Wd} {kl:ae OA} {F:ae aI} {K:KO} {ds:ae Tmp} {rest:ae bN} {n:Nat} {l:qr} {D:ae Deferred} {pm:ak FrameMode} {ro:ak Nat} {d:Nat} {g:ak (Tmp×Bool)}
variable{x i:ay}{v:ah}{k:Nat}{kk:IntKind}
def ah6{xs:ae Int}(hn:Nat.blt d n=true)(hg:bO l g=true)(hx:ev l x=v)(hi:ev l i=.int kk (k:Int))(hf:aj ai v xs∈F)(h1:k<xs.length):
 dI (R (λh=>aM P ds (⟨⟨some d,g,.jw 1 x i⟩,[]⟩::rest) (act n l D pm ro) h K) B w0 kl F)
  (∀b o z,xs[k]? =some z->R (λh=>aM P ds rest (act n ((d,.pointer (some ⟨b,o,none⟩))::l) D pm ro) h K) B w0 kl (bW b o [.int .i64 z]::F)):=
 ⟨λr=>(Yj hn hg hx hi hf s6 s6).h λb o z hz=>r b o z we⟩
def ah7{xs:ae Bool}(hn:Nat.blt d n=true)(hg:bO l g=true)(hx:ev l x=v)(hi:ev l i=.int kk (k:Int))(hf:aj sP v xs∈F)(h1:k<xs.length):
 dI (R (λh=>aM P ds (⟨⟨some d,g,.jw 1 x i⟩,[]⟩::rest) (act n l D pm ro) h K) B w0 kl F)
  (∀b o z,xs[k]? =some z->R (λh=>aM P ds rest (act n ((d,.pointer (some ⟨b,o,none⟩))::l) D pm ro) h K) B w0 kl (bW b o [.bool z]::F)):=
 ⟨λr=>(Yk hn hg hx hi hf s6 s6).h λb o z hz=>r b o z we⟩
end
inductive Fill(ρ:Operand->Value):List Value->List (Nat×Nat×Operand)->List Value->Prop
 |nil {cs:List Value}:Fill ρ cs [] cs
 |cons {cs vs cs' r:List Value} {off size:Nat} {x:Operand} {parts:List (Nat×Nat×Operand)} {v:Value} (h0:ρ x=v) (h1:cellsOf v=some vs) (h2:Nat.beq (jh vs) size=true) (h3:jH cs off vs=some cs') (t:Fill ρ cs' parts r):Fill ρ cs ((off,size,x)::parts) r
def Fill.eq{ρ:ay->ah}:∀{zero:ae ah} {parts:ae (Nat×Nat×ay)} {cs:ae ah},Fill ρ zero parts cs->vB ρ zero parts=some cs
 |_,_,_,.nil=>rfl
 |cs0,_,_,.cons (off:=off) (size:=size) (x:=x) (parts:=parts) h0 h1 h2 h3 t=>by
  have ih:=t.eq;show(match cellsOf (ρ x)with
   |none=>none
   |some vs=>cond (Nat.beq (jh vs) size) (match jH cs0 off vs with
    |some cs=>vB ρ cs parts
    |none=>none) none)=_
  simp only[h0,h1,h2,h3,cond,ih]
variable{B:ae Nat}{w0:Wd}{kl:ae OA}{F:ae aI}{K:KO}{ds:ae Tmp}{rest:ae bN}{n d:Nat}{l:qr}{D:ae Deferred}{pm:ak FrameMode}{ro:ak Nat}{g:ak (Tmp×Bool)}
def ah8
 {t:aD} {len:Nat} {zero cs:ae ah} {parts:ae (Nat×Nat×ay)} (hn:Nat.blt d n=true) (hg:bO l g=true) (hx:Fill (ev l) zero parts cs):
 dI (R (λh=>aM P ds (⟨⟨some d,g,.Aj t len zero parts⟩,[]⟩::rest) (act n l D pm ro) h K) B w0 kl F)
 (∀b,R (λh=>aM P ds rest (act n ((d,.slice (some ⟨b,0,some 0⟩) len len)::l) D pm ro) h K) B w0 (pt b (.cells cs)::kl) F):=ahO hn hg hx.eq
def ah9
 {zero cs:ae ah} {parts:ae (Nat×Nat×ay)} (hn:Nat.blt d n=true) (hg:bO l g=true) (hx:Fill (ev l) zero parts cs):
 dI (R (λh=>aM P ds (⟨⟨some d,g,.build zero parts⟩,[]⟩::rest) (act n l D pm ro) h K) B w0 kl F) (R (λh=>aM P ds rest (act n ((d,.agg ⟨cs⟩)::l) D pm ro) h K) B w0 kl F):=cZ hn hg (ahm hx.eq)
variable{α:Type}
def aia{E:Enc α}{v:ah}{xs:ae α}{Q:IH->Prop}(hf:aj E v xs∈F)(h:∀a c,v=.slice a xs.length c->R Q B w0 kl F):R Q B w0 kl F:=λw s=>by
 obtain⟨a,c,e⟩:=Yi (s.facts _ hf);exact h a c e w s
section
variable {B:ae Nat} {w0:Wd} {kl:ae OA} {F:ae aI} {K:KO} {ds:ae Tmp} {rest:ae bN} {n:Nat} {l:qr} {D:ae Deferred} {pm:ak FrameMode} {ro:ak Nat} {t1 t2:Nat}
def Jm{e:Bool}(h1:e=false->R (λh=>aM P ds rest (act n ((t1,.bool false)::(t2,.bool false)::l) D pm ro) h K) B w0 kl F)(h2:e=true->R (λh=>aM P ds rest (act n ((t1,.bool true)::(t2,.bool true)::l) D pm ro) h K) B w0 kl F):
 R (λh=>aM P ds rest (act n ((t1,.bool e)::(t2,.bool e)::l) D pm ro) h K) B w0 kl F:=by
 cases e
 .exact h1 rfl
 .exact h2 rfl
variable{p:Prop}
def Rl{_:Decidable p}(h1:¬p->R (λh=>aM P ds rest (act n ((t1,.bool false)::(t2,.bool false)::l) D pm ro) h K) B w0 kl F)(h2:p->R (λh=>aM P ds rest (act n ((t1,.bool true)::(t2,.bool true)::l) D pm ro) h K) B w0 kl F):
 R (λh=>aM P ds rest (act n ((t1,.bool (decide p))::(t2,.bool (decide p))::l) D pm ro) h K) B w0 kl F:=
 Jm (λe=>h1 (uZ e)) (λe=>h2 (ko e))
def Rm{_:Decidable p}(h1:p->R (λh=>aM P ds rest (act n ((t1,.bool false)::(t2,.bool false)::l) D pm ro) h K) B w0 kl F)(h2:¬p->R (λh=>aM P ds rest (act n ((t1,.bool true)::(t2,.bool true)::l) D pm ro) h K) B w0 kl F):
 R (λh=>aM P ds rest (act n ((t1,.bool (!decide p))::(t2,.bool (!decide p))::l) D pm ro) h K) B w0 kl F:=
 Jm (λe=>h1 tt) (λe=>h2 tt)
end
section
variable {B:ae Nat} {w0:Wd} {kl kl':ae OA} {F:ae aI} {K:KO} {ds:ae Tmp} {rest:ae bN} {n:Nat} {l:qr} {D:ae Deferred} {pm:ak FrameMode} {ro:ak Nat} {d:Nat} {g:ak (Tmp×Bool)}
variable{x:ay}{v:ah}{cs:ae ah}
def aib{t:aD}(hn:Nat.blt d n=true)(hg:bO l g=true)(hv:ev l x=v)(hx:cellsOf v=some cs):dI (R (λh=>aM P ds (⟨⟨some d,g,.box x t⟩,[]⟩::rest) (act n l D pm ro) h K) B w0 kl F)
 (∀b,R (λh=>aM P ds rest (act n ((d,.pointer (some ⟨b,0,none⟩))::l) D pm ro) h K) B w0 (pt b (.cells cs)::kl) F):=ahN hn hg (by rw[hv];exact hx)
def aic{y:ay}{b o m:Nat}{vs c:ae ah}(hg:bO l g=true)(hx:ev l x=.pointer (some ⟨b,o,none⟩))(hw:ev l y=v)(hy:cellsOf v=some vs)(hm:Nat.beq (jh vs) m=true)
 (hk:aB (pt b (.cells cs)) kl kl') (hv:jH cs o vs=some c):
 dI (R (λh=>aM P ds (⟨⟨none,g,.store m x y⟩,[]⟩::rest) (act n l D pm ro) h K) B w0 kl F) (R (λh=>aM P ds rest (act n l D pm ro) h K) B w0 (pt b (.cells c)::kl') F):=Re hg hx (by rw[hw];exact hy) hm hk hv
end
def aid
 {fn:Fn} {first captured:ae ay} {a b:ae ah} (hn:Nat.blt d n=true) (hg:bO l g=true) (h1:EvL (ev l) first a) (h2:EvL (ev l) captured b):
 dI (R (λh=>aM P ds (⟨⟨some d,g,.DJ fn first captured⟩,[]⟩::rest) (act n l D pm ro) h K) B w0 kl F) (R (λh=>aM P ds rest (act n ((d,.func fn ⟨a⟩ ⟨b⟩)::l) D pm ro) h K) B w0 kl F):=cZ hn hg (ahn h1 h2)
def AY(h:p:=by
 repeat (first
  |((with_reducible apply dI.trans);first
   |with_reducible exact aho
   |with_reducible exact ahp
   |with_reducible exact ahq
   |with_reducible exact ahr
   |with_reducible exact ahs
   |with_reducible exact aht
   |with_reducible exact ahu
   |with_reducible exact ahv
   |with_reducible exact ahw
   |with_reducible exact ahx
   |with_reducible exact ahy
   |with_reducible exact ahz
   |with_reducible exact ahA
   |with_reducible exact ahB
   |with_reducible exact ahC
   |with_reducible exact ahF
   |with_reducible exact ahG
   |with_reducible exact ahH
   |((with_reducible apply ahD);exact rfl)
   |((with_reducible apply ahE);exact rfl)
   |((with_reducible apply ahI);exact rfl)
   |((with_reducible apply ahJ);exact rfl)
   |((with_reducible apply ahK);exact rfl;exact rfl)
   |((with_reducible apply ah6);exact rfl;exact rfl;(focus ((conv=>lhs;whnf);(first|done|fail)));exact rfl;exact iN;(focus ((omega);(first|done|fail))))
   |((with_reducible apply ah7);exact rfl;exact rfl;(focus ((conv=>lhs;whnf);(first|done|fail)));exact rfl;exact iN;(focus ((omega);(first|done|fail))))
   |((with_reducible apply Yj);exact rfl;exact rfl;(focus ((conv=>lhs;whnf);(first|done|fail)));exact rfl;exact iN;(focus ((omega);(first|done|fail)));(focus ((omega);(first|done|fail))))
   |((with_reducible apply Yk);exact rfl;exact rfl;(focus ((conv=>lhs;whnf);(first|done|fail)));exact rfl;exact iN;(focus ((omega);(first|done|fail)));(focus ((omega);(first|done|fail))))
   |((with_reducible apply cZ);exact rfl;exact rfl;(focus ((first|((with_reducible apply Je);(focus ((conv=>lhs;whnf);(first|done|fail))))|((with_reducible apply LW);(focus ((conv=>lhs;whnf);(first|done|fail))))|((with_reducible apply L6);exact rfl)|((with_reducible apply L9);exact rfl;exact rfl)|((with_reducible apply Ma);exact rfl;exact rfl)|((with_reducible apply Mc);exact rfl;exact rfl)|((with_reducible apply Md);exact rfl;exact rfl)|((with_reducible apply Me);exact rfl;exact rfl)|((with_reducible apply Mf);exact rfl;exact rfl)|((with_reducible apply LZ);exact rfl)|((with_reducible apply LX);exact rfl;(focus ((conv=>lhs;whnf);(first|done|fail))))|((with_reducible apply LY);exact rfl;(focus ((conv=>lhs;whnf);(first|done|fail))))|((with_reducible apply Mh);exact rfl;(focus ((conv=>lhs;whnf);(first|done|fail))))|((with_reducible apply Mi);exact rfl)|((with_reducible apply Mj);exact rfl;(focus ((conv=>lhs;whnf);(first|done|fail))))|((with_reducible apply Mk);exact rfl;(focus ((conv=>lhs;whnf);(first|done|fail))))|((with_reducible apply Ml);(focus ((conv=>lhs;whnf);(first|done|fail))))|((with_reducible apply Mm);exact rfl)|((with_reducible apply Mo);exact rfl)|((with_reducible apply Mq);exact rfl)|with_reducible exact L8|((with_reducible apply Mr);exact rfl;exact rfl;exact rfl)|((with_reducible apply MG);exact rfl;exact rfl;(focus ((omega);(first|done|fail))))|((with_reducible apply Jf);exact rfl;exact rfl;(focus ((omega);(first|done|fail)));(focus ((omega);(first|done|fail))))|((with_reducible apply Ms);exact rfl;exact rfl;(focus ((omega);(first|done|fail)));(focus ((omega);(first|done|fail))))|((with_reducible apply F8);exact rfl;exact rfl;(focus ((omega);(first|done|fail)));(focus ((omega);(first|done|fail))))|((with_reducible apply Mg);exact rfl;exact rfl;(focus ((omega);(first|done|fail)));(focus ((omega);(first|done|fail))))|((with_reducible apply Mx);exact rfl;exact rfl;(focus ((first|assumption|kernel_rfl);(first|done|fail))))|((with_reducible apply MB);exact rfl;exact rfl;(focus ((first|assumption|kernel_rfl);(first|done|fail))))|((with_reducible apply MC);exact rfl;exact rfl)|((with_reducible apply ME);exact rfl;exact rfl)|((with_reducible apply MF);exact rfl;exact rfl;(focus ((omega);(first|done|fail)));(focus ((omega);(first|done|fail)))));(first|done|fail))))
   |((with_reducible apply aid);exact rfl;exact rfl;(focus (repeat (first|with_reducible exact EvL.nil|((with_reducible apply EvL.cons);(conv=>lhs;whnf)))));(focus (repeat (first|with_reducible exact EvL.nil|((with_reducible apply EvL.cons);(conv=>lhs;whnf))))))
   |((with_reducible apply ah8);exact rfl;exact rfl;(focus (repeat (first|with_reducible exact Fill.nil|((with_reducible apply Fill.cons);(conv=>lhs;whnf);(conv=>lhs;whnf);exact rfl;(conv=>lhs;whnf))))))
   |((with_reducible apply ah9);exact rfl;exact rfl;(focus (repeat (first|with_reducible exact Fill.nil|((with_reducible apply Fill.cons);(conv=>lhs;whnf);(conv=>lhs;whnf);exact rfl;(conv=>lhs;whnf))))))
   |((with_reducible apply aib);exact rfl;exact rfl;(focus ((conv=>lhs;whnf);(first|done|fail)));(focus ((conv=>lhs;whnf);(first|done|fail))))
   |((with_reducible apply ahM);exact rfl;exact rfl)
   |((with_reducible apply ahQ);exact rfl;exact rfl;exact rfl;exact dU;(focus ((conv=>lhs;whnf);(first|done|fail))))
   |((with_reducible apply Rc);exact rfl;exact rfl;exact rfl;exact dU;(focus ((conv=>lhs;whnf);(first|done|fail))))
   |((with_reducible apply ahR);exact rfl;exact rfl;exact rfl;exact iN;(focus ((conv=>lhs;whnf);(first|done|fail))))
   |((with_reducible apply Mw);exact rfl;exact rfl;exact rfl;exact iN;(focus ((conv=>lhs;whnf);(first|done|fail))))
   |((with_reducible apply ahS);exact rfl;exact rfl;exact rfl;exact iN;(focus ((conv=>lhs;whnf);(first|done|fail))))
   |((with_reducible apply Yh);exact rfl;exact rfl;exact rfl;exact iN;(focus ((conv=>lhs;whnf);(first|done|fail))))
   |((with_reducible apply aic);exact rfl;exact rfl;(focus ((conv=>lhs;whnf);(first|done|fail)));(focus ((conv=>lhs;whnf);(first|done|fail)));exact rfl;exact dU;(focus ((conv=>lhs;whnf);(first|done|fail))))
   |((with_reducible apply ahW);exact rfl;exact rfl;(focus ((conv=>lhs;whnf);(first|done|fail)));exact iN)
   |((with_reducible apply ahX);exact rfl;exact rfl;(focus ((conv=>lhs;whnf);(first|done|fail)));exact dU)
   |((with_reducible apply ah2 (re:=_::_));exact rfl;exact rfl;(focus ((first|((with_reducible apply Je);(focus ((conv=>lhs;whnf);(first|done|fail))))|((with_reducible apply LW);(focus ((conv=>lhs;whnf);(first|done|fail))))|((with_reducible apply L6);exact rfl)|((with_reducible apply L9);exact rfl;exact rfl)|((with_reducible apply Ma);exact rfl;exact rfl)|((with_reducible apply Mc);exact rfl;exact rfl)|((with_reducible apply Md);exact rfl;exact rfl)|((with_reducible apply Me);exact rfl;exact rfl)|((with_reducible apply Mf);exact rfl;exact rfl)|((with_reducible apply LZ);exact rfl)|((with_reducible apply LX);exact rfl;(focus ((conv=>lhs;whnf);(first|done|fail))))|((with_reducible apply LY);exact rfl;(focus ((conv=>lhs;whnf);(first|done|fail))))|((with_reducible apply Mh);exact rfl;(focus ((conv=>lhs;whnf);(first|done|fail))))|((with_reducible apply Mi);exact rfl)|((with_reducible apply Mj);exact rfl;(focus ((conv=>lhs;whnf);(first|done|fail))))|((with_reducible apply Mk);exact rfl;(focus ((conv=>lhs;whnf);(first|done|fail))))|((with_reducible apply Ml);(focus ((conv=>lhs;whnf);(first|done|fail))))|((with_reducible apply Mm);exact rfl)|((with_reducible apply Mo);exact rfl)|((with_reducible apply Mq);exact rfl)|with_reducible exact L8|((with_reducible apply Mr);exact rfl;exact rfl;exact rfl)|((with_reducible apply MG);exact rfl;exact rfl;(focus ((omega);(first|done|fail))))|((with_reducible apply Jf);exact rfl;exact rfl;(focus ((omega);(first|done|fail)));(focus ((omega);(first|done|fail))))|((with_reducible apply Ms);exact rfl;exact rfl;(focus ((omega);(first|done|fail)));(focus ((omega);(first|done|fail))))|((with_reducible apply F8);exact rfl;exact rfl;(focus ((omega);(first|done|fail)));(focus ((omega);(first|done|fail))))|((with_reducible apply Mg);exact rfl;exact rfl;(focus ((omega);(first|done|fail)));(focus ((omega);(first|done|fail))))|((with_reducible apply Mx);exact rfl;exact rfl;(focus ((first|assumption|kernel_rfl);(first|done|fail))))|((with_reducible apply MB);exact rfl;exact rfl;(focus ((first|assumption|kernel_rfl);(first|done|fail))))|((with_reducible apply MC);exact rfl;exact rfl)|((with_reducible apply ME);exact rfl;exact rfl)|((with_reducible apply MF);exact rfl;exact rfl;(focus ((omega);(first|done|fail)));(focus ((omega);(first|done|fail)))));(first|done|fail)));(focus ((repeat (first|exact Cy|refine Em rfl dU tb rfl ?_|refine Ga rfl iN tb rfl ?_|refine Ji rfl iN tb rfl ?_|refine Jj rfl dU tb rfl ?_|refine Jk rfl iN tb rfl ?_|refine Jl rfl iN tb rfl ?_));(first|done|fail))))
   |((with_reducible apply Rk (re:=_::_));exact rfl;exact rfl;(focus ((conv=>lhs;whnf);(first|done|fail)));(focus ((conv=>lhs;whnf);(first|done|fail)));exact rfl;exact dU;(focus ((conv=>lhs;whnf);(first|done|fail)));(focus ((repeat (first|exact Cy|refine Em rfl dU tb rfl ?_|refine Ga rfl iN tb rfl ?_|refine Ji rfl iN tb rfl ?_|refine Jj rfl dU tb rfl ?_|refine Jk rfl iN tb rfl ?_|refine Jl rfl iN tb rfl ?_));(first|done|fail))))
   |fail)
  |((with_reducible apply dI.all);intro _)
  |with_reducible apply dI.imp)
 with_reducible exact dI.refl _):p:=h
def go{G G':Prop}(x:G')(r:dI G G':=by exact AY):G:=r.h x
def oh{c:dz}{a:bi}(r:R (λh=>EV P c a h (Cq P (.loop c) K)) B w0 kl F):R (λh=>EV P (.loop c) a h K) B w0 kl F:=λw s=>
 .loop _ (r w s) (λ_ _ hm=>hm) (λo a' h' hm hn=>by
  exact me)
def qa.sub{F0:ae α}:∀{F:ae α},qa F0 F->Sub F0 F:=λ{F} h=>by
 have:∀k:ae α,(∀x∈k,x∈F)->Sub k F:=by
  intro k;induction k with
  |nil=>intro _;exact .nil
  |cons a k ih=>intro hk;exact .cons (hk a (dD ..)) (ih λx hx=>hk x (dB _ hx))
 exact this F0 h.mem
inductive dO{α:Type}:List α->List α->List α->Prop
 |nil {l:List α}:dO [] l l
 |cons {a:α} {k l m:List α} (h:dO k l m):dO (a::k) l (a::m)
 |self {k:List α}:dO k [] k
 |app {k l:List α}:dO k l (k++l)
def dO.eq:∀{k l m:ae α},dO k l m->k++l=m
 |_,_,_,.nil=>rfl
 |_,_,_,.self=>gW _
 |_,_,_,.app=>rfl
 |_,_,_,.cons h=>by rw[dm,h.eq]
def Yq(h:p:=by intro _ _;repeat (first|exact Cy|refine Em rfl dU tb rfl ?_|refine Ga rfl iN tb rfl ?_|refine Ji rfl iN tb rfl ?_|refine Jj rfl dU tb rfl ?_|refine Jk rfl iN tb rfl ?_|refine Jl rfl iN tb rfl ?_|refine Rj Dd rfl ?_)):p:=h
def rR(h:p:=by intro y;repeat (first|exact dO.nil|apply dO.cons|exact dO.self|exact dO.app)):p:=h
def MH(h:p:=by repeat (first|exact wS.nil|(apply wS.drop;exact rfl)|(apply wS.keep;exact rfl))):p:=h
def Jn(h:p:=by repeat (first|exact dO.nil|apply dO.cons|exact dO.self|exact dO.app)):p:=h
def Jo(h:p:=by repeat (first|exact trivial|refine⟨rfl,?_⟩)):p:=h
def MI(h:p:=by dsimp only[uB,Nat.reduceAdd,List.append_nil,List.cons_append,List.nil_append]):p:=h
def Yr(h:p:=by repeat (first|with_reducible exact EvL.nil|((with_reducible apply EvL.cons);(conv=>lhs;whnf)))):p:=h
def MJ(h:p:=by conv=>lhs;(reduce;(try simp only[Int.reduceOfNat,Int.reduceNegSucc]))):p:=h
def Yt(h:p:=by intro z y;repeat (first|exact dO.nil|apply dO.cons|exact dO.self|exact dO.app)):p:=h
def Gb(h:p:=by first|exact .inl rfl|exact .inr rfl):p:=h
def Yu(h:p:=by repeat (first|exact qa.here|apply qa.cons|apply qa.app)):p:=h
section
variable {B:ae Nat} {w0:Wd} {kl kl' bz:ae OA} {F:ae aI} {K:KO} {ds:ae Tmp} {rest:ae bN} {n:Nat} {l:qr} {D:ae Deferred} {pm:ak FrameMode} {ro:ak Nat} {d:Nat} {g:ak (Tmp×Bool)}
variable{Y:Type}{vs:ae ah}
def iy{f:ay}{xs:ae ay}{re:ae jc}{fn:Fn}{first captured as:ae ah}{k1:ae OA}{F1:ae aI}{val:Y->ah}{k1':Y->ae OA}{fs:Y->ae aI}{pr:Y->Prop}{eX:Y->ae OA}{F2:Y->ae aI}
 (hc:aX P fn as captured k1 F1 val k1' fs pr) (hn:Nat.blt d n=true:=by rfl) (hg:bO l g=true:=by rfl) (hf:ev l f=.func fn ⟨first⟩ ⟨captured⟩:=by rfl) (hx:EvL (ev l) xs vs:=by exact Yr) (ha:first++vs=as:=by rfl)
 (hk:aF k1 kl bz:=by exact mW) (hF:Sub F1 F:=by exact mo)
 (hak:∀y,dO (k1' y) bz (eX y):=by exact rR) (sS:∀y,dO (fs y) F (F2 y):=by exact rR)
 (hs:∀y,pr y->Same P re (ev ((d,val y)::l)) ((d,val y)::l) B w0 (eX y) (F2 y):=by exact Yq)
 (next:∀y,pr y->R (λh=>aM P ds rest (act n ((d,val y)::l) D pm ro) h K) B w0 (eX y) (F2 y)):
 R (λh=>aM P ds (⟨⟨some d,g,.call f xs⟩,re⟩::rest) (act n l D pm ro) h K) B w0 kl F:=
 ah3 hc hn hg hf hx ha hk hF (λy hy=>by rw[(hak y).eq,(sS y).eq];exact hs y hy) (λy hy=>by rw[(hak y).eq,(sS y).eq];exact next y hy)
abbrev dZ(P:Program)(f:fO)(args:ae ah)(F:ae aI)(v:ah):Prop:=aX P (.func f) args [] [] F (λ_:Unit=>v) (λ_=>[]) (λ_=>[]) (λ_=>True)
variable{l0:qr}{args cap:ae ah}{c:dz}{m:Nat}
def mq{f:fO}{kl:ae OA}{F:ae aI}{val:Y->ah}{kl':Y->ae OA}{fs:Y->ae aI}{pr:Y->Prop}(cf:iG)(hF:(sI P uq sJ).F f=some cf)
 (hb:∀B w0,R (λh=>EV P c (act m l0 [] none none) h (zm cf (Left B w0 val kl' fs pr))) B w0 kl F)
 (h1:cf.body=c:=by exact MJ) (h2:um cf.ntmps (jh (args++cap))=m:=by conv=>lhs;whnf) (h3:uB 0 (args++cap) []=l0:=by exact MI):aX P (.func f) args cap kl F val kl' fs pr:=
 ah0 cf hF (by rw[h1,h2,h3];exact hb)
def gB{kl:ae OA}{F:ae aI}{val:Y->ah}{kl':Y->ae OA}{fs:Y->ae aI}{pr:Y->Prop}(f:fO)(hb:∀B w0,R (λh=>EV P c (act m l0 [] none none) h (zm (qI P f) (Left B w0 val kl' fs pr))) B w0 kl F)(h:(mO P f).isSome=true:=by kernel_rfl)(h1:(qI P f).body=c:=by exact MJ)(h2:um (qI P f).ntmps (jh (args++cap))=m:=by conv=>lhs;whnf)(h3:uB 0 (args++cap) []=l0:=by exact MI):aX P (.func f) args cap kl F val kl' fs pr:=mq _ (qo f h) hb h1 h2 h3
def Jp{α:Type}(E:Enc α){x i:ay}{v:ah}{xs:ae α}{size:Nat}{k:Nat}{kk:IntKind}{F2:α->E.Y->ae aI}(hn:Nat.blt d n=true:=by rfl)(hg:bO l g=true:=by rfl)(hx:ev l x=v:=by conv=>lhs;whnf)(hi:ev l i=.int kk (k:Int):=by rfl)
 (hf:aj E v xs∈F:=by exact iN) (hs:E.n=size:=by rfl) (h1:k<xs.length:=by omega)
 (ha:∀z y,dO (E.fs z y) F (F2 z y):=by exact Yt)
 (next:∀b o z y,xs[k]? =some z->R (λh=>aM P ds rest (act n ((d,.pointer (some ⟨b,o,none⟩))::l) D pm ro) h K) B w0 kl (bW b o (E.pat z y)::F2 z y)):
 R (λh=>aM P ds (⟨⟨some d,g,.jw size x i⟩,[]⟩::rest) (act n l D pm ro) h K) B w0 kl F:=
 (Rh hn hg hx hi hf hs s6 s6).h λb o z y hz=>by rw[(ha z y).eq];exact next b o z y we
def qQ{o:Out}{cf:iG}{val:Y->ah}{k1:Y->ae OA}{fs:Y->ae aI}{pr:Y->Prop}(y:Y)
 (hr:RS l kl cf.results vs:=by exact AX) (hv:rQ vs=val y:=by rfl) (hp:pr y)
 (hk:aF (k1 y) kl bz:=by exact mW) (hF:Sub (fs y) F:=by exact mo)
 (ho:o=.normal\/o=.ret:=by exact Gb):R (λh=>zm cf (Left B w0 val k1 fs pr) o (act n l [] none ro) h) B w0 kl F:=
 Yp y hr hv hp hk hF ho
def mD{A:OA}{fs F2:ae aI}{Q:IH->Prop}(hA:oK A fs)(hk:aB A kl kl':=by exact dU)(ha:dO fs F F2:=by exact Jn)(h:R Q B w0 kl' F2):R Q B w0 kl F:=
 ahY hA hk (by rw[ha.eq];exact h)
variable{X:Type}
def dV{c:dz}{L2:X->qr}{yz:X->ae OA}{yA:X->ae aI}(m:X->Nat)(L:X->qr)(KL:X->ae OA)(FF:X->ae aI)(inv:X->Prop)(x0:X)(hi:inv x0)
 (h0:wS l (L x0) l0:=by exact MH) (hl:sub (L x0++l0) l:=by exact Jo)
 (hk:aF (KL x0) kl bz:=by exact mW) (hF:Sub (FF x0) F:=by exact mo)
 (hak:∀x,dO (KL x) bz (yz x):=by exact rR) (sS:∀x,dO (FF x) F (yA x):=by exact rR)
 (hal:∀x,dO (L x) l0 (L2 x):=by exact rR)
 (body:∀x,inv x->R (λh=>EV P c (act n (L2 x) D pm ro) h (yu (LI n D pm ro B w0 m L KL FF inv l0 bz F) (m x) K)) B w0 (yz x) (yA x)):
 R (λh=>EV P (.loop c) (act n l D pm ro) h K) B w0 kl F:=
 ah4 m L KL FF inv x0 hi l0 hl hk hF λx hx=>by rw[(hak x).eq,(sS x).eq,(hal x).eq];exact body x hx
def aU{m:X->Nat}{L:X->qr}{KL:X->ae OA}{FF:X->ae aI}{inv:X->Prop}{Jq eX:ae OA}{F0:ae aI}{m0:Nat}(x:X)(hm:m x<m0)(hi:inv x)
 (hl:sub (L x++l0) l:=by exact Jo) (ha:dO (KL x) bz Jq:=by exact Jn)
 (hk:aF Jq kl eX:=by exact mW) (hF:Sub (FF x) F:=by exact mo)
 (AP:qa F0 F:=by exact Yu):
 R (λh=>yu (LI n D pm ro B w0 m L KL FF inv l0 bz F0) m0 K .normal (act n l D pm ro) h) B w0 kl F:=
 ah5 x hm hi hl (by rw[ha.eq];exact hk) hF AP
end
end Go.Ideal
namespace Go.Ideal
class Cz (e:Bool) (f t:outParam Prop):Prop where
 no:e=false->f
 yes:e=true->t
instance (priority:=low) as3 {e:Bool}:Cz e (e=false) (e=true):=⟨id,id⟩
instance as6 {p:Prop} {_:Decidable p}:Cz (decide p) (¬p) p:=⟨uZ,ko⟩
instance as7 {p:Prop} {_:Decidable p}:Cz (!decide p) p (¬p):=⟨λe=>by simpa using e,λe=>by simpa using e⟩
section
variable {P:Program}
variable {B:ae Nat} {w0:Wd} {kl:ae OA} {F:ae aI} {K:KO} {ds:ae Tmp} {rest:ae bN} {n:Nat} {l:qr} {D:ae Deferred} {pm:ak FrameMode} {ro:ak Nat} {t1 t2:Nat}
def gG{e:Bool}{f t:Prop}[Cz e f t](h1:f->R (λh=>aM P ds rest (act n ((t1,.bool false)::(t2,.bool false)::l) D pm ro) h K) B w0 kl F)(h2:t->R (λh=>aM P ds rest (act n ((t1,.bool true)::(t2,.bool true)::l) D pm ro) h K) B w0 kl F):
 R (λh=>aM P ds rest (act n ((t1,.bool e)::(t2,.bool e)::l) D pm ro) h K) B w0 kl F:=
 Jm (λx=>h1 (Cz.no x)) (λx=>h2 (Cz.yes x))
end
section
instance as8 {n:Nat}:OfNat ay n:=⟨.tmp n⟩
abbrev kT:ay:=.const (.bool true)
abbrev vS:ah:=.slice none 0 0
abbrev vE:ah:=.string ⟨⟨[]⟩⟩
abbrev kC(f:Nat)(l:ae ay):aK:=.call (.func f) l
abbrev kS(n:Nat)(e:aK):bN:=⟨⟨some n,none,e⟩,[]⟩
abbrev kH(n c:Nat)(e:aK):bN:=⟨⟨some n,some ⟨c,false⟩,e⟩,[]⟩
abbrev kN(e:aK):bN:=⟨⟨none,none,e⟩,[]⟩
abbrev kM(n:Nat)(x:ay):bN:=kS n (.mv x)
abbrev kO(l:ae bN):dz:=.ops (l.filterMap λx=>x.s.dst) l
end
variable {P:Program}
section
variable {B:ae Nat} {w0:Wd} {kl kl' bz:ae OA} {F:ae aI} {K:KO} {ds:ae Tmp} {rest:ae bN} {n:Nat} {l:qr} {D:ae Deferred} {pm:ak FrameMode} {ro:ak Nat} {d:Nat} {g:ak (Tmp×Bool)}
variable{G:Prop}
def aO{c:ay}{x y:dz}{p:Prop}{ip:Decidable p}(h1:p->R (λh=>EV P x (act n l D pm ro) h K) B w0 kl F)(h2:¬p->R (λh=>EV P y (act n l D pm ro) h K) B w0 kl F)
 (r:dI G (R (λh=>EV P (.cond c x y) (act n l D pm ro) h K) B w0 kl F):=by exact AY) (hc:ev l c=.bool (decide p):=by exact rfl):G:=r.h (p9 hc h1 h2)
variable{o:Out}{cf:iG}{vs:ae ah}{val:Unit->ah}{k1:Unit->ae OA}{fs:Unit->ae aI}{pr:Unit->Prop}
def bF(hv:rQ vs=val ())(r:dI G (R (λh=>zm cf (Left B w0 val k1 fs pr) o (act n l [] none ro) h) B w0 kl F):=by exact AY)(hr:RS l kl cf.results vs:=by exact AX)(hp:pr ():=by exact trivial)(hk:aF (k1 ()) kl bz:=by exact mW)(hF:Sub (fs ()) F:=by exact mo)(ho:o=.normal\/o=.ret:=by exact Gb):G:=r.h (qQ () (hr:=hr) (hv:=hv) (hp:=hp) (hk:=hk) (hF:=hF) (ho:=ho))
def eH(r:dI G (R (λh=>zm cf (Left B w0 val k1 fs pr) o (act n l [] none ro) h) B w0 kl F):=by exact AY)(hr:RS l kl cf.results vs:=by exact AX)(hv:rQ vs=val ():=by exact rfl)(hp:pr ():=by exact trivial)(hk:aF (k1 ()) kl bz:=by exact mW)(hF:Sub (fs ()) F:=by exact mo)(ho:o=.normal\/o=.ret:=by exact Gb):G:=r.h (qQ () (hr:=hr) (hv:=hv) (hp:=hp) (hk:=hk) (hF:=hF) (ho:=ho))
variable{Y:Type}
def gC
 {f:ay}
 {xs:ae ay}
 {re:ae jc}
 {fn:Fn}
 {first captured vs as:ae ah}
 {k1:ae OA}
 {F1:ae aI}
 {val:Y->ah}
 {k1':Y->ae OA}
 {fs:Y->ae aI}
 {pr:Y->Prop}
 {eX:Y->ae OA}
 {F2:Y->ae aI}
 (hc:aX P fn as captured k1 F1 val k1' fs pr)
 (next:∀y,pr y->R (λh=>aM P ds rest (act n ((d,val y)::l) D pm ro) h K) B w0 (eX y) (F2 y))
 {G:Prop} (r:dI G (R (λh=>aM P ds (⟨⟨some d,g,.call f xs⟩,re⟩::rest) (act n l D pm ro) h K) B w0 kl F):=by exact AY)
 (hn:Nat.blt d n=true:=by rfl)
 (hg:bO l g=true:=by rfl)
 (hf:ev l f=.func fn ⟨first⟩ ⟨captured⟩:=by rfl)
 (hx:EvL (ev l) xs vs:=by exact Yr)
 (ha:first++vs=as:=by rfl)
 (hk:aF k1 kl bz:=by exact mW)
 (hF:Sub F1 F:=by exact mo)
 (hak:∀y,dO (k1' y) bz (eX y):=by exact rR)
 (sS:∀y,dO (fs y) F (F2 y):=by exact rR)
 (hs:∀y,pr y->Same P re (ev ((d,val y)::l)) ((d,val y)::l) B w0 (eX y) (F2 y):=by exact Yq):G:=r.h (iy (hc:=hc) (hn:=hn) (hg:=hg) (hf:=hf) (hx:=hx) (ha:=ha) (hk:=hk) (hF:=hF) (hak:=hak) (sS:=sS) (hs:=hs) (next:=next))
variable{α:Type}
def gX
 {x i:ay}
 {v:ah}
 {xs:ae α}
 {size:Nat}
 {k:Nat}
 {kk:IntKind}
 (E:Enc α)
 {F2:α->E.Y->ae aI}
 (next:∀b o z y,xs[k]? =some z->R (λh=>aM P ds rest (act n ((d,.pointer (some ⟨b,o,none⟩))::l) D pm ro) h K) B w0 kl (bW b o (E.pat z y)::F2 z y))
 {G:Prop} (r:dI G (R (λh=>aM P ds (⟨⟨some d,g,.jw size x i⟩,[]⟩::rest) (act n l D pm ro) h K) B w0 kl F):=by exact AY)
 (hn:Nat.blt d n=true:=by rfl)
 (hg:bO l g=true:=by rfl)
 (hx:ev l x=v:=by conv=>lhs;whnf)
 (hi:ev l i=.int kk (k:Int):=by rfl)
 (hf:aj E v xs∈F:=by exact iN)
 (hs:E.n=size:=by rfl)
 (h1:k<xs.length:=by omega)
 (ha:∀z y,dO (E.fs z y) F (F2 z y):=by exact Yt):G:=r.h (Jp (E:=E) (hn:=hn) (hg:=hg) (hx:=hx) (hi:=hi) (hf:=hf) (hs:=hs) (h1:=h1) (ha:=ha) (next:=next))
def gQ
 {o:Out}
 {cf:iG}
 {vs:ae ah}
 {val:Y->ah}
 {k1:Y->ae OA}
 {fs:Y->ae aI}
 {pr:Y->Prop}
 (y:Y)
 (hp:pr y)
 (hr:RS l kl cf.results vs:=by exact AX)
 (hv:rQ vs=val y:=by rfl)
 (hk:aF (k1 y) kl bz:=by exact mW)
 (hF:Sub (fs y) F:=by exact mo)
 (ho:o=.normal\/o=.ret:=by exact Gb):R (λh=>zm cf (Left B w0 val k1 fs pr) o (act n l [] none ro) h) B w0 kl F:=qQ (y:=y) (hr:=hr) (hv:=hv) (hp:=hp) (hk:=hk) (hF:=hF) (ho:=ho)
def gL{X:Type}
 {c:dz}
 {l0:qr}
 {L2:X->qr}
 {yz:X->ae OA}
 {yA:X->ae aI}
 (m:X->Nat) (L:X->qr) (inv:X->Prop) (x0:X) (hi:inv x0)
 (body:∀x,inv x->R (λh=>EV P c (act n (L2 x) D pm ro) h (yu (LI n D pm ro B w0 m L (λ_=>[]) (λ_=>[]) inv l0 bz F) (m x) K)) B w0 (yz x) (yA x))
 {G:Prop} (r:dI G (R (λh=>EV P (.loop c) (act n l D pm ro) h K) B w0 kl F):=by exact AY)
 (h0:wS l (L x0) l0:=by exact MH)
 (hl:sub (L x0++l0) l:=by exact Jo)
 (hk:aF ([]) kl bz:=by exact mW)
 (hF:Sub ([]) F:=by exact mo)
 (hak:∀x,dO ([]) bz (yz x):=by exact rR)
 (sS:∀x,dO ([]) F (yA x):=by exact rR)
 (hal:∀x,dO (L x) l0 (L2 x):=by exact rR):G:=r.h (dV (m:=m) (L:=L) (KL:=λ_=>[]) (FF:=λ_=>[]) (inv:=inv) (x0:=x0) (hi:=hi) (h0:=h0) (hl:=hl) (hk:=hk) (hF:=hF) (hak:=hak) (sS:=sS) (hal:=hal) (body:=body))
def gN{c:dz}
 {l0:qr}
 {L2:Nat->qr}
 {yz:Nat->ae OA}
 {yA:Nat->ae aI}
 (N q:Nat) (inv:Nat->Prop) (hi:inv 0)
 (body:∀x,inv x->R (λh=>EV P c (act n (L2 x) D pm ro) h (yu (LI n D pm ro B w0 (λk=>N - k) (λk:Nat=>[(q,.int .i64 (k:Int))]) (λ_=>[]) (λ_=>[]) inv l0 bz F) (N - x) K)) B w0 (yz x) (yA x))
 {G:Prop} (r:dI G (R (λh=>EV P (.loop c) (act n l D pm ro) h K) B w0 kl F):=by exact AY)
 (h0:wS l ([(q,.int .i64 ((0:Nat):Int))]) l0:=by exact MH)
 (hl:sub ([(q,.int .i64 ((0:Nat):Int))]++l0) l:=by exact Jo)
 (hk:aF ([]) kl bz:=by exact mW)
 (hF:Sub ([]) F:=by exact mo)
 (hak:∀x,dO ([]) bz (yz x):=by exact rR)
 (sS:∀x,dO ([]) F (yA x):=by exact rR)
 (hal:∀x,dO ([(q,.int .i64 (x:Int))]) l0 (L2 x):=by exact rR):G:=r.h (dV (m:=(λk=>N - k)) (L:=(λk:Nat=>[(q,.int .i64 (k:Int))])) (KL:=λ_=>[]) (FF:=λ_=>[]) (inv:=inv) (x0:=(0:Nat)) (hi:=hi) (h0:=h0) (hl:=hl) (hk:=hk) (hF:=hF) (hak:=hak) (sS:=sS) (hal:=hal) (body:=body))
variable{Q:IH->Prop}
def gF(E:Enc α)(v:ah)(xs:ae α)(h:∀a c,v=.slice a xs.length c->R Q B w0 kl F)(hf:aj E v xs∈F:=by exact iN):R Q B w0 kl F:=aia hf h
variable{F2:ae aI}
def gZ{A:OA}{fs:ae aI}(hA:oK A fs)(h:R Q B w0 kl' F2)(hk:aB A kl kl':=by exact dU)(ha:dO fs F F2:=by exact Jn):R Q B w0 kl F:=mD hA hk ha h
def gP{cs:ae ah}(b:Nat)(h:R Q B w0 kl' F2)(hk:aB (pt b (.cells cs)) kl kl':=by exact dU)(ha:dO [bW b 0 cs] F F2:=by exact Jn):R Q B w0 kl F:=mD ahl hk ha h
def gH{t1 t2:Nat}{e:Bool}{f t:Prop}(h1:f->R (λh=>aM P ds rest (act n ((t1,.bool false)::(t2,.bool false)::l) D pm ro) h K) B w0 kl F)(h2:t->R (λh=>aM P ds rest (act n ((t1,.bool true)::(t2,.bool true)::l) D pm ro) h K) B w0 kl F)
 (r:dI G (R (λh=>aM P ds rest (act n ((t1,.bool e)::(t2,.bool e)::l) D pm ro) h K) B w0 kl F):=by exact AY) (i:Cz e f t:=by exact inferInstance):G:=r.h (have _q:Cz e f t:=i;gG h1 h2)
abbrev iV(n:Int):ah:=.int .i64 n
abbrev fC(P:Program){Y:Type}(f:fO)(args:ae ah)(F:ae aI)(v:Y->ah)(Q:Y->Prop):Prop:=aX P (.func f) args [] [] F v (λ_=>[]) (λ_=>[]) Q
end
end Go.Ideal
namespace Go.Ideal
noncomputable def Rn(l:ae (Nat×dL))(n:Nat)(fn:Nat)(args:ae ah)(v:ah):iI->IH->ak (ah×IH):=λq h=>
 match q with
 |⟨.func f,as,[],none⟩=>match h with
  |⟨.leaf,0,0⟩=>cond (Nat.beq f fn&&qH 5 (.tuple ⟨args⟩) (.tuple ⟨as⟩)) (some (v,⟨heapT l,n,0⟩)) none
  |_=>none
 |_=>none
variable{P:Program}{v:ah}
def aie{l:ae (Nat×dL)}{n fn:Nat}{args:ae ah}(hc:CALL P ⟨.func fn,args,[],none⟩ ⟨.leaf,0,0⟩ (λr pm h'=>leaves l n v r pm h'=true))
 {q:iI} {h:IH} {v':ah} {h':IH} (hk:Rn l n fn args v q h=some (v',h')):CALL P q h (λr pm h2=>r=.ok v'/\pm=none/\h2=h'):=by
 unfold Rn at hk;split at hk
 .rename_i f as;split at hk
  .cases hcd:(Nat.beq f fn&&qH 5 (.tuple ⟨args⟩) (.tuple ⟨as⟩))with
   |false=>rw[hcd]at hk;cases hk
   |true=>
    rw[hcd]at hk;simp only[cond,aN,dH]at hk;obtain⟨rfl,rfl⟩:=hk;simp only[eP]at hcd;have h1:=mU hcd.1;subst h1;have h2:=Cn _ _ _ hcd.2;injection h2 with h2;injection h2 with h2;subst h2;refine .forget _ hc ?_;intro r pm h' hl;unfold leaves at hl;split at hl
    .cases hl
    .split at hl
     .rename_i v';simp only[eP]at hl;obtain⟨⟨⟨h1,h2⟩,h3⟩,h4⟩:=hl;refine⟨⟨heapT l,n,0⟩,(mU h2).symm,(mU h3).symm,?_,?_,rfl,rfl⟩
      .intro i;rcases QV l i with e|⟨o,e1,e2⟩
       .exact .inr ⟨bM _,e⟩
       .left;exact e2.trans (XW h4 i o e1).symm
      .rw[Cn _ _ _ h1]
     .cases hl
  .cases hk
 .cases hk
def aif{f:fO}(hs:∀h,CALL P ⟨.func f,[],[],none⟩ h (λr pm h'=>pm=none/\r=.ok v/\h'=h)):dZ P f [] [] v:=λB w s=>
 .uy _ (hs w.h) (by rintro r pm h' ⟨rfl,rfl,rfl⟩;exact⟨rfl,w,(),rfl,s,rfl,trivial⟩)
noncomputable def MK(L:Lay):Wd:=⟨mh L,λi=>i<(mh L).next,λ_ h=>h⟩
end Go.Ideal
namespace Go.Ideal
open Go.ChangeShapes Go.WideShapes Go.ChangeAt Go.RowKit
variable {P:Program}
def Gc{α:Type}(P:Program)(t:aD)(E:Enc α):Prop:=∀(w:Wd) (H:Type) (d:DataW H) (cs:ae ah),(∀i,i<w.h.next->w.z i)->jg P w.h t cs d->∃a y,cs=E.pat a y/\∀f∈E.fs a y,f.p w
def ML{α:Type}{p:Nat->α->Prop}:∀n,(∀k,k<n->∃a,p k a)->∃l:ae α,l.length=n/\∀(k:Nat) a,l[k]? =some a->p k a
 |0,_=>⟨[],rfl,λk a h=>by cases h⟩
 |n+1,h=>by
  obtain⟨l,h1,h2⟩:=ML n (λk hk=>h k s6);obtain⟨a,ha⟩:=h n s6;refine⟨l++[a],by simp[h1],λk b hb=>?_⟩;by_cases hk:k<l.length
  .rw[jL hk]at hb;exact h2 k b hb
  .rw[jP s6]at hb;have hk0:k=n:=by have:=(aV.1 hb).1;simp at this;omega
   subst hk0;rw[h1]at hb;simp at hb;subst hb;exact ha
def Yv{α β:Type}(E1:Enc α)(E2:Enc β):Enc (α×β):=⟨E1.n+E2.n,E1.Y×E2.Y,λa y=>E1.pat a.1 y.1++E2.pat a.2 y.2,λa y=>E1.fs a.1 y.1++E2.fs a.2 y.2,λa y=>by rw[eF,E1.len,E2.len]⟩
def Yw:Enc Unit:=⟨0,Unit,λ_ _=>[],λ_ _=>[],λ_ _=>rfl⟩
inductive Gd(P:Program):{α:Type}->List Field->Enc α->Prop
 |nil:Gd P [] Yw
 |cons {α β:Type} {f:Field} {fs:List Field} {E1:Enc α} {E2:Enc β} (h:Gc P f.type E1) (hn:P.cellsOf f.type=E1.n) (t:Gd P fs E2):Gd P (f::fs) (Yv E1 E2)
def Gd.MM{w:Wd}{H:Type}(hz:∀i,i<w.h.next->w.z i):∀{α:Type} {fs:ae Field} {E:Enc α},Gd P fs E->∀(o0:Nat) (cs:ae ah) (ds:ae (DataW H)),cs.length=(fs.map λf=>P.cellsOf f.type).sum->ds.length=fs.length->
 fs.map (·.offset)=sums o0 (fs.map λf=>P.cellsOf f.type)->(∀(j:Nat) f d,fs[j]? =some f->ds[j]? =some d->jg P w.h f.type ((cs.drop (f.offset - o0)).take (P.cellsOf f.type)) d)->∃a y,cs=E.pat a y/\∀f∈E.fs a y,f.p w
 |_,_,_,.nil,o0,cs,ds,h1,h2,h3,h4=>⟨(),(),j6.1 tI,λf hf=>by cases hf⟩
 |_,_,_,.cons (f:=f) (fs:=fs) (E1:=E1) (E2:=E2) h hn t,o0,cs,ds,h1,h2,h3,h4=>by
  match ds,h2 with
  |d::ds,h2=>
   simp only[fA,List.sum_cons,sums,BV]at h1 h3;obtain⟨ho,h3⟩:=h3;have r0:=h4 0 f d rfl rfl;rw[ho,nX,yX]at r0;obtain⟨a,y,q1,q2⟩:=h w H d _ hz r0;obtain⟨b,z,u1,u2⟩:=Gd.MM hz t (o0+P.cellsOf f.type) (cs.drop (P.cellsOf f.type)) ds tj ua h3 (λj g e hg he=>by
    exact cR)
   refine⟨(a,b),(y,z),?_,?_⟩
   .show cs=E1.pat a y++E2.pat b z;rw[<- q1,<- u1,nE]
   .exact px
def Gc.conv{α β:Type}{t:aD}{E:Enc α}{E':Enc β}(h:Gc P t E)(hc:∀a y,∃b z,E.pat a y=E'.pat b z/\E.fs a y=E'.fs b z):Gc P t E':=λw H d cs hz r=>by
 obtain⟨a,y,q1,q2⟩:=h w H d cs hz r;obtain⟨b,z,e1,e2⟩:=hc a y;exact⟨b,z,by rw[q1,e1],λf hf=>q2 f (by rw[e2];exact hf)⟩
section
variable {H:Type} {enc:aD×ah->H} {W:World} {K:aD->Prop}
def zu(P:Program)(w:Wd)(t:aD)(v:ah){H:Type}(d:DataW H):Prop:=∃cs,jg P w.h t cs d/\((kD P t=true/\v=.agg ⟨cs⟩)\/(kD P t=false/\cs=[v]))
variable{α:Type}{w:Wd}{t:aD}{v:ah}{d:DataW H}
def zu.agg{E:Enc α}(h:zu P w t v d)(hz:∀i,i<w.h.next->w.z i)(ha:kD P t=true)(hr:Gc P t E):∃a y,v=.agg ⟨E.pat a y⟩/\∀f∈E.fs a y,f.p w:=by
 exact jt
def zu.one{E:Enc α}(h:zu P w t v d)(hz:∀i,i<w.h.next->w.z i)(ha:kD P t=false)(hr:Gc P t E):∃a y,E.pat a y=[v]/\∀f∈E.fs a y,f.p w:=by
 exact ij
variable{L:Lay}
def aih{v0:ah}(hw:w.h=mh L)(r:Cu P (mh L) t v d)(hv:VR (lS L) v v0)(hok:Value.okWide P W .any 0 t v0):zu P w t v d:=by
 obtain⟨cs,r1,h2,h3⟩:=r;refine⟨cs,by rw[hw];exact r1,?_⟩;cases ha:kD P t with
 |true=>
  left;refine⟨rfl,?_⟩;rcases h3 with e|e
  .subst e;have hagg:∃c,v0=.agg c:=by
    unfold kD at ha;unfold Value.okWide at hok;split at ha
    .rename_i fs hu;exact sk
    .rename_i n e hu;exact sk
    .cases ha
   obtain⟨c,rfl⟩:=hagg
   exfalso
   cases hv<;>simp[cellV]at h2
  .exact e
 |false=>
  right;refine⟨rfl,?_⟩;rcases h3 with e|e
  .exact e
  .subst e
   exfalso
   cases hv with
   |agg hc hl=>
    cases hu:P.underlying t with
    |none=>simp[Value.okWide,Cell.okWide,Cell.ok,hu]at hok
    |some d=>cases d<;>simp[Value.okWide,Cell.okWide,Cell.ok,kD,hu]at hok ha
def aii{ts:ae aD}{vs' vs:ae ah}(hv:aW (lS L) vs' vs):∀(j:Nat) v',vs'[j]? =some v'->∃v,vs[j]? =some v/\VR (lS L) v' v:=by
 intro j;induction j generalizing vs' vs with
 |zero=>
  intro v' h;cases hv with
  |nil=>cases h
  |cons h1 h2=>cases h;exact⟨_,rfl,h1⟩
 |succ j ih=>
  intro v' h;cases hv with
  |nil=>cases h
  |cons h1 h2=>exact ih h2 v' h
def MN{a:Nat}{b:Nat->Bool}{c:Bool}:∀{ts:ae aD} {vs:ae ah} {ds:ae (DataW H)} {ps:ae MemPlace},DataW.TrodAll enc P W a b c ts vs ds ps->vs.length=ts.length/\ds.length=ts.length
 |[],[],[],_,_=>⟨rfl,rfl⟩
 |_::_,_::_,_::_,_,⟨_,_,_,h,_⟩=>by
  have:=MN h;simp[this.1,this.2]
def Yx{l:ae α}(h:l.length=3):∃a b c,l=[a,b,c]:=by
 match l,h with
 |[a,b,c],_=>exact⟨a,b,c,rfl⟩
def MO{l:ae α}(h:l.length=4):∃a b c d,l=[a,b,c,d]:=by
 match l,h with
 |[a,b,c,d],_=>exact⟨a,b,c,d,rfl⟩
def Ro(sN:P.follows .mixedOrders=true)(hgl:P.globals.size=0){f:fO}(fn:Func)(hfn:P.funcs[f]? =some fn)(hbody:fn.body.isNone=false)(hname:(fn.name== "runtime.NumGoroutine")=false)
 (hK:∀t,K t->PlainT P K t) {ts:ae aD} {vs:ae ah} {ds:ae (DataW H)} {ps:ae MemPlace} (hT:∀t∈ts,K t) (hok:∀(j:Nat) t v,ts[j]? =some t->vs[j]? =some v->Value.okWide P W .any 0 t v)
 (hA:DataW.TrodAll enc P W 0 (λ_=>true) true ts vs ds ps)
 (aij:∀(w:Wd) (vs':ae ah),(∀i,i<w.h.next->w.z i)->vs'.length=vs.length->(∀(j:Nat) t v d,ts[j]? =some t->vs'[j]? =some v->ds[j]? =some d->zu P w t v d)->∃F,(∀f∈F,f.p w)/\dZ P f vs' F (.bool true)):
 Calls P f ⟨vs⟩ W (λe w'=>e=.returned (.bool true)/\Below W.heap.size W w'):=by
 obtain⟨M,vs',h1,h2,h3⟩:=Yd hK hT hok hA [];rw[cK]at h1 h2;refine ahb sN hgl fn hfn hbody hname (L:=M) (args:=vs') (λi g cs hi=>h3 i g cs (bM _) AG|>λq=>by simpa using q) h1 rfl ?_;have hlen:vs'.length=vs.length:=by
  have:∀{a b:ae ah},aW (lS M) a b->a.length=b.length:=by
   intro a;induction a with
   |nil=>intro b h;cases h;rfl
   |cons x a ih=>intro b h;cases h with|cons q r=>simp[ih r]
  exact this h1
 obtain⟨F,hF,hfn'⟩:=aij (MK M) vs' (λi hi=>hi) hlen (λj t v d ht hv hd=>by
  obtain⟨v0,e,pX⟩:=aii (ts:=ts) h1 j v hv;exact aih rfl (h2 j t v d ht hv hd) pX (hok j t v0 ht e))
 have st:St [] (MK M) [] F (MK M):=⟨⟨aZ _,λ_ _ _=>rfl,λ_ _=>rfl⟩,Wd.Le.refl _,λi _ hz=>.inl hz,⟨[],rfl,Ae,λi hi=>by cases hi⟩,hF⟩
 refine .uy _ (hfn' [] (MK M) st) ?_;rintro r pm h' ⟨rfl,w',y,rfl,s,rfl,_⟩;exact⟨rfl,rfl,⟨s.agree.next,λi hi=>s.agree.get i hi s7,λhl=>s.agree.low hl s7⟩⟩
end
end Go.Ideal
namespace Go.Ideal
variable {P:Program}
def sU(P:Program)(cf:iG)(K:KR):KO:=λo a h=>match wJ o with
 |none=>False
 |some m=>LEAVE P cf a.tmps a.defers m h λr h''=>K r a.pm h''
def aik{Y:Type}{f:fO}{args cap:ae ah}{kl:ae OA}{F:ae aI}{val:Y->ah}{kl':Y->ae OA}{fs:Y->ae aI}{pr:Y->Prop}{c:dz}{m:Nat}{l0:qr}(cf:iG)(hF:(sI P uq sJ).F f=some cf)
 (hb:∀B w0,R (λh=>EV P c (act m l0 [] none none) h (sU P cf (Left B w0 val kl' fs pr))) B w0 kl F)
 (h1:cf.body=c:=by exact MJ) (h2:um cf.ntmps (jh (args++cap))=m:=by conv=>lhs;whnf) (h3:uB 0 (args++cap) []=l0:=by exact MI):aX P (.func f) args cap kl F val kl' fs pr:=by
 intro B w s;obtain⟨fn,e1,e2⟩:=(F3 P uq sJ (λf q h v h' hm=>by cases hm)).fn f cf hF;refine X4 cf fn e1 e2 ?_;rw[Ri,h1,h2,h3];exact hb B w w s
section
variable {B:ae Nat} {w0:Wd} {kl kl' bz:ae OA} {F:ae aI} {K:KO} {n:Nat} {l:qr} {D:ae Deferred} {pm:ak FrameMode} {ro:ak Nat}
inductive lU:List OA->List Deferred->List OA->Prop
 |nil {kl:List OA}:lU kl [] kl
 |cons {kl kl' eX:List OA} {r:Nat} {args:Array Value} {D:List Deferred} (h:aB (pt r (.jo true)) kl kl') (t:lU kl' D eX):lU kl ({target:=.collected r,args}::D) eX
def lU.leave{cf:iG}{ts:T ah}{Kr:jB->IH->Prop}:∀{D:ae Deferred} {kl eX:ae OA},lU kl D eX->(∀w',St B w0 eX F w'->∃v,uo cf.results ts w'.h=some v/\Kr (.ok v) w'.h)->∀w,St B w0 kl F w->LEAVE P cf ts D .returning w.h Kr
 |_,_,_,.nil,hk,w,s=>by
  obtain⟨v,h1,h2⟩:=hk w s;exact .ret v h1 h2
 |_,_,_,.cons (r:=r) h t,hk,w,s=>by
  have s1:=s.fI h;refine .coll wA r s1.get.1 ?_;exact lU.leave t hk _ (s1.write (o':=.jo false)).tail
variable{Y:Type}{o:Out}{eX:ae OA}
def ail{cf:iG}{vs:ae ah}{val:Y->ah}{k1:Y->ae OA}{fs:Y->ae aI}{pr:Y->Prop}(y:Y)(hD:lU kl D eX)(hr:RS l eX cf.results vs)(hv:rQ vs=val y)(hp:pr y)(hk:aF (k1 y) eX bz)(hF:Sub (fs y) F)
 (ho:o=.normal\/o=.ret):R (λh=>sU P cf (Left B w0 val k1 fs pr) o (act n l D none ro) h) B w0 kl F:=by
 intro w s;have key:LEAVE P cf (iD l) D .returning w.h λr h''=>Left B w0 val k1 fs pr r none h'':=by
  refine lU.leave hD (λw' s'=>⟨val y,?_,rfl,w',y,rfl,((s'.lF hk).drop).sub hF,rfl,hp⟩) w s;unfold uo;rw[hr.all s',<- hv];exact oa
 rcases ho with rfl|rfl
 .exact key
 .exact key
def wT(L:pz):pz:={L with state:=.busy}
def mE(L:pz)(o:Out):pz:=match o with
 | .normal=>{L with state:=.ready,pending:=none}
 |o=>{L with state:=.done,pending:=some o}
def lV(o:Out):Bool:=match o with
 | .normal=>true
 |_=>false
def AZ(o:Out):Prop:=match o with
 | .panic _=>False
 |_=>True
def A7{Y:Type}(B:ae Nat)(w0:Wd)(lo:Nat)(L:pz)(out:Y->Out)(k1:Y->ae OA)(fs:Y->ae aI)(pr:Y->Prop):KO:=λo a h=>
 a.defers=[]/\∃(w:Wd) (y:Y),w.h=h/\o=out y/\AZ o/\St B w0 (pt lo (.loop (wT L))::k1 y) (fs y) w/\pr y
def aim{lo:Nat}{L:pz}{out:Y->Out}{k1:Y->ae OA}{fs:Y->ae aI}{pr:Y->Prop}(y:Y)(ho:o=out y)(hn:AZ o)(hp:pr y)(hk:aF (pt lo (.loop (wT L))::k1 y) kl eX)(hF:Sub (fs y) F):
 R (λh=>A7 B w0 lo L out k1 fs pr o (act n l [] none ro) h) B w0 kl F:=λw s=>⟨rfl,w,y,rfl,ho,hn,((s.lF hk).drop).sub hF,hp⟩
def Yy(n:Nat):∀(ps:ae Tmp) (args:ae ah) (l:qr),ps.all (λp=>Nat.blt p n)=true->ps.length=args.length->∃l2,xU n ps args (iD l)=iD l2/\l2=(ps.zip args).reverse++l
 |[],[],l,_,_=>⟨l,rfl,rfl⟩
 |p::ps,v::args,l,h,e=>by
  simp only[Pb,eP]at h;obtain⟨l2,h1,h2⟩:=Yy n ps args ((p,v)::l) h.2 tt;refine⟨l2,?_,by rw[h2];simp⟩;rw[<- h1];show xU n ps args (cond (Nat.blt p n) ((iD l).set p (some v)) (iD l))=_;rw[h.1];rfl
def Rp{f:ay}{ps:ae Tmp}{assign body:dz}{fn:Fn}{first captured:ae ah}{k1:ae OA}{F1:ae aI}{Jr:Y->ah}{out:Y->Out}{k1':Y->ae OA}{fs:Y->ae aI}{pr:Y->Prop}
 (hf:ev l f=.func fn ⟨first⟩ ⟨captured⟩)
 (it:∀lo r,aX P fn (first++[.func (.yield lo) #[] #[]]) captured (pt lo (.loop ⟨.ready,none,iD l,n,ps,assign,body,r⟩)::k1) F1 Jr (λy=>pt lo (.loop (mE ⟨.ready,none,iD l,n,ps,assign,body,r⟩ (out y)))::k1' y) fs pr)
 (hk:aF k1 kl bz) (hF:Sub F1 F)
 (next:∀r y,pr y->R (λh=>K (out y) (act n l ({target:=.collected r,args:= #[]}::D) pm none) h) B w0 (k1' y++(pt r (.jo true)::bz)) (fs y++F)):
 R (λh=>EV P (.rangeFunc f ps assign body) (act n l D pm none) h K) B w0 kl F:=by
 intro w s;let L:Nat->pz:=λr=>⟨.ready,none,iD l,n,ps,assign,body,r⟩
 let r:=w.h.next
 let w1:=w.new (.jo true)
 have s1:St B w0 (pt r (.jo true)::kl) F w1:=s.new _;let lo:=w1.h.next
 let w2:=w1.new (.loop (L r))
 have s2:St B w0 (pt lo (.loop (L r))::pt r (.jo true)::kl) F w2:=s1.new _;have s3:St B w0 ((pt lo (.loop (L r))::k1)++(pt r (.jo true)::bz)) F w2:=s2.lF (k:=pt lo (.loop (L r))::k1) (kl':=pt r (.jo true)::bz) (.cons .here (by
  have:∀{k kl bz:ae OA} (A:OA),aF k kl bz->aF k (A::kl) (A::bz):=by
   intro k kl bz A h;exact oR
  exact this _ hk))
 obtain⟨S,h1,h2,h3⟩:=s3.own;obtain⟨S1,S2,q1,q2,hp⟩:=h1.lF (k:=pt lo (.loop (L r))::k1) (kl':=pt r (.jo true)::bz) (by
  have:∀(k kr:ae OA),aF k (k++kr) kr:=by
   intro k kr;induction k with
   |nil=>exact .nil
   |cons A k ih=>exact .cons .here ih
  exact this _ _)
 have hsub:∀i∈S1,i∈S:=λi hi=>hp.mem_iff.2 (jl _ hi);have st1:St S1 w2 (pt lo (.loop (L r))::k1) F1 w2:=⟨⟨aZ _,λ_ _ _=>rfl,λ_ _=>rfl⟩,Wd.Le.refl w2,λi _ hz=>.inl hz,⟨S1,q1,(jA.1 (hp.nodup h2)).1,λi hi=>⟨.inr hi,(h3 i (hsub i hi)).2⟩⟩,λf hf=>s2.facts f (hF.mem f hf)⟩
 have hc:=it lo r S1 w2 st1;refine .rangeFunc fn first captured (by rw[pY];exact hf) (act n l ({target:=.collected r,args:= #[]}::D) pm none) w1.h r (.inl ⟨rfl,rfl,rfl,rfl⟩) (Left S1 w2 Jr (λy=>pt lo (.loop (mE (L r) (out y)))::k1' y) fs pr) ?_ ?_ ?_
 .rw[jW];exact hc
 .rintro v pm' h' ⟨rfl,w',y,rfl,c,hv,hpr⟩;have sc:St B w0 ((pt lo (.loop (mE (L r) (out y)))::k1' y)++(pt r (.jo true)::bz)) (fs y++F) w':=s3.call (k1:=pt lo (.loop (L r))::k1) (F1:=F1) ⟨S,hp,h2,h3⟩ q2 c;have hg:=(show St B w0 (pt lo (.loop (mE (L r) (out y)))::(k1' y++(pt r (.jo true)::bz))) (fs y++F) w' from sc).get;refine⟨mE (L r) (out y),hg.1,?_,?_⟩
  .cases out y<;>simp[mE]
  .have e:(mE (L r) (out y)).pending.getD .normal=out y:=by cases out y<;>rfl
   rw[e];exact next r y hpr _ (St.write (o':=.loop {mE (L r) (out y)with state:=.exhausted}) sc).tail
 .rintro ch pm' h' ⟨rfl,w',y,rfl,c,hv,hpr⟩;cases hv
end
end Go.Ideal
namespace Go.Ideal
variable {P:Program}
def dA{S α:Type}(step:S->α->S×Bool):S->ae α->S
 |s,[]=>s
 |s,x::xs=>match step s x with
  |(s',true)=>dA step s' xs
  |(s',false)=>s'
def iO{S α:Type}(step:S->α->S×Out):S->ae α->S×Out
 |s,[]=>(s,.normal)
 |s,x::xs=>match step s x with
  |(s',.normal)=>iO step s' xs
  |(s',o)=>(s',o)
def Sub.refl'{α:Type}:∀(l k:ae α),Sub l (k++l)
 |[],_=>.nil
 |a::l,k=>.cons (nD _ (dD ..)) (by have:=Sub.refl' l (k++[a]);rwa [List.append_assoc]at this)
def Sub.app{α:Type}:∀{k1 k2 l:ae α},Sub k1 l->Sub k2 l->Sub (k1++k2) l
 |_,_,_,.nil,h=>h
 |_,_,_,.cons h h1,h2=>.cons h (h1.app h2)
section
variable {B:ae Nat} {w0:Wd} {kl kl' bz:ae OA} {F:ae aI} {K:KO} {n:Nat} {l:qr} {D:ae Deferred} {pm:ak FrameMode} {ro:ak Nat}
def MP{S α:Type}{step:S->α->S×Out}:∀(xs:ae α) (s:S),dA (λ(so:S×Out) x=>(step so.1 x,lV (step so.1 x).2)) (s,Out.normal) xs=iO step s xs
 |[],s=>rfl
 |x::xs,s=>by
  have ih:=MP (step:=step) xs;simp only[dA,iO];cases h:step s x with
  |mk s' o=>
   cases o with
   |normal=>simp only[lV];exact ih s'
   |_=>simp only[lV]
end
end Go.Ideal
namespace Go.Ideal
variable {P:Program} {ρ:ay->ah}
def wrapN{m:Nat}(h:m<9223372036854775808):IntKind.i64.wrap (m:Int)=m:=wrap64 s6 s6
variable{a b:Nat}{x y:ay}{t:aD}
def MQ(hx:ρ x=.int .i64 (a:Int))(hy:ρ y=.int .i64 (b:Int))(hb:b<64):Pu P ρ (.bin .shr t x y) (.int .i64 ((a>>>b:Nat):Int)):=λh=>by
 simp only[aK.run,hx,hy];rw[Ej (op:=.shr) (v:=.int .i64 ((a>>>b:Nat):Int)) rfl (by
  show dK P (Op.shift .shr .i64 a .i64 b)=_;unfold Op.shift;rw[if_neg s6];show some (Value.int .i64 ((a:Int).fdiv (2^(min (b:Int).toNat 64))))=_;exact gb) rfl]
def ain(hx:ρ x=.int .i64 (a:Int))(hy:ρ y=.int .i64 (b:Int))(hb:b<64)(hr:a<<<b<9223372036854775808):Pu P ρ (.bin .shl t x y) (.int .i64 ((a<<<b:Nat):Int)):=λh=>by
 simp only[aK.run,hx,hy];rw[Ej (op:=.shl) (v:=.int .i64 ((a<<<b:Nat):Int)) rfl (by
  show dK P (Op.shift .shl .i64 a .i64 b)=_;unfold Op.shift;rw[if_neg s6];show some (Value.int .i64 (IntKind.i64.wrap ((a:Int)*2^(min (b:Int).toNat 64))))=_;rw[show min (b:Int).toNat 64=b by simp;omega];rw[show((a:Int)*2^b)=((a<<<b:Nat):Int)by rw[Nat.shiftLeft_eq];simp,wrapN hr]) rfl]
def MS(h:a<9223372036854775808):(BitVec.ofInt 64 (a:Int)).toNat=a:=by
 simp[BitVec.toNat_ofInt];omega
def MU(hx:ρ x=.int .i64 (a:Int))(hy:ρ y=.int .i64 (b:Int))(ha:a<9223372036854775808)(hb:b<9223372036854775808):Pu P ρ (.bin .and t x y) (.int .i64 ((a&&&b:Nat):Int)):=λh=>by
 simp only[aK.run,hx,hy];rw[Ej (op:=.and) (v:=.int .i64 ((a&&&b:Nat):Int)) rfl (by
  show dK P (Op.intBits .and .i64 a b)=_;show some (Value.int .i64 (IntKind.i64.wrap ((BitVec.ofInt 64 (a:Int)&&&BitVec.ofInt 64 (b:Int)).toNat:Int)))=_;rw[BitVec.toNat_and,MS ha,MS hb,wrapN (Ps Nat.and_le_left ha)]) rfl]
def aio(hx:ρ x=.int .i64 (a:Int))(hy:ρ y=.int .i64 (b:Int))(ha:a<9223372036854775808)(hb:b<9223372036854775808):Pu P ρ (.bin .or t x y) (.int .i64 ((a|||b:Nat):Int)):=λh=>by
 simp only[aK.run,hx,hy];rw[Ej (op:=.or) (v:=.int .i64 ((a|||b:Nat):Int)) rfl (by
  show dK P (Op.intBits .or .i64 a b)=_;show some (Value.int .i64 (IntKind.i64.wrap ((BitVec.ofInt 64 (a:Int)|||BitVec.ofInt 64 (b:Int)).toNat:Int)))=_;have:a|||b<2^63:=Nat.or_lt_two_pow s6 s6;rw[BitVec.toNat_or,MS ha,MS hb,wrapN s6]) rfl]
end Go.Ideal
namespace Go.Ideal
variable {P:Program}
def Js{X:Type}(f:X->ae OA):OA:=⟨λw S=>∃x,gq w (f x) S,λa h ⟨x,hx⟩=>⟨x,gq.loc a h hx⟩⟩
def Gf{ρ:ay->ah}{x y:ay}{a b:Int}(hx:ρ x=.int .i64 a)(hy:ρ y=.int .i64 b):Pu P ρ (.DK false [x,y]) (.int .i64 (min a b)):=λh=>by
 have e:nZ ρ [x,y]=[.int .i64 a,.int .i64 b]:=by rw[zg];simp[hx,hy]
 simp only[aK.run,e,xR,cond];by_cases hb:a<=b
 .rw[wL,eT hb,Int.min_eq_left hb]
 .have:leZ a b=false:=by rw[wL,bY hb]
  rw[this,Int.min_eq_right s6]
section
variable {B:ae Nat} {w0:Wd} {kl kl' bz:ae OA} {F:ae aI} {K:KO} {n:Nat} {l:qr} {D:ae Deferred} {pm:ak FrameMode} {ro:ak Nat}
variable{X:Type}{Q:IH->Prop}
def zw{f:X->ae OA}{eX:X->ae OA}(hk:aB (Js f) kl kl':=by exact dU)(ha:∀x,dO (f x) kl' (eX x):=by intro x;repeat (first|exact dO.nil|apply dO.cons|exact dO.self|exact dO.app))(h:∀x,R Q B w0 (eX x) F):R Q B w0 kl F:=λw s=>by
 obtain⟨S,⟨S1,S2,⟨x,q1⟩,q2,e⟩,h2,h3⟩:=(s.fI hk).own;refine h x w ?_;rw[<- (ha x).eq];exact⟨s.agree,s.le,s.fH,⟨S,by rw[e];exact q1.app q2,h2,h3⟩,s.facts⟩
def uC(f:X->ae OA)(x:X){Q:IH->Prop}(hk:aF (f x) kl bz:=by exact mW)(h:R Q B w0 (Js f::bz) F):R Q B w0 kl F:=λw s=>by
 obtain⟨S,h1,h2,h3⟩:=s.own;obtain⟨S1,S2,q1,q2,hp⟩:=h1.lF hk;exact h w ⟨s.agree,s.le,s.fH,⟨S1++S2,⟨S1,S2,⟨x,q1⟩,q2,rfl⟩,hp.nodup h2,λi hi=>h3 i (hp.mem_iff.2 hi)⟩,s.facts⟩
def eD(g:aI)(hg:∀w:Wd,(∀f∈F,f.p w)->g.p w)(h:R Q B w0 kl (g::F)):R Q B w0 kl F:=λw s=>
 h w ⟨s.agree,s.le,s.fH,s.own,λf hf=>by
  rcases bH.1 hf with rfl|hf
  .exact hg w s.facts
  .exact s.facts f hf⟩
variable{α:Type}
def aip{E:Enc α}{w:Wd}{b f c:Nat}{v:ah}{xs:ae α}(h1:(bW b 0 [v]).p w)(h2:(aj E v xs).p w)(hc:1<=c:=by first|exact aZ _|omega)(hf:f=0\/f=1:=by exact Gb):(aj (az E) (.slice (some ⟨b,0,some f⟩) 1 c) [xs]).p w:=by
 obtain⟨cells,q1,q2⟩:=h1;refine .inr ⟨b,0,f,c,cells,⟨rfl,hc,hf⟩,q1,λk x hk=>?_⟩;match k,hk with
 |0,hk=>
  cases hk;refine⟨v,λj u hj=>?_,λg hg=>by rw[bA.1 hg];exact h2⟩;have:=q2 j u hj;simpa using this
variable{Y:Type}
def En{f:fO}{args cap:ae ah}{kl:ae OA}{F:ae aI}{val:Y->ah}{kl':Y->ae OA}{fs:Y->ae aI}{pr:Y->Prop}{c:dz}{m:Nat}{l0:qr}(cf:iG)(hF:(sI P uq sJ).F f=some cf)
 (hb:∀B w0,R (λh=>EV P c (act m l0 [] none none) h (sU P cf (Left B w0 val kl' fs pr))) B w0 kl F)
 (h1:cf.body=c:=by exact MJ) (h2:um cf.ntmps (jh (args++cap))=m:=by conv=>lhs;whnf) (h3:uB 0 (args++cap) []=l0:=by exact MI):aX P (.func f) args cap kl F val kl' fs pr:=
 aik cf hF hb h1 h2 h3
variable{eX:ae OA}
def yB{o:Out}{cf:iG}{vs:ae ah}{val:Y->ah}{k1:Y->ae OA}{fs:Y->ae aI}{pr:Y->Prop}(y:Y)(hD:lU kl D eX:=by repeat (first|exact lU.nil|(apply lU.cons;(focus (repeat (first|with_reducible exact aB.here|with_reducible apply aB.there|with_reducible apply aB.app))))))
 (hr:RS l eX cf.results vs:=by exact AX) (hv:rQ vs=val y) (hp:pr y)
 (hk:aF (k1 y) eX bz:=by exact mW) (hF:Sub (fs y) F:=by exact mo)
 (ho:o=.normal\/o=.ret:=by exact Gb):R (λh=>sU P cf (Left B w0 val k1 fs pr) o (act n l D none ro) h) B w0 kl F:=
 ail y hD hr hv hp hk hF ho
def sV{lo:Nat}{L:pz}{out:Y->Out}{k1:Y->ae OA}{fs:Y->ae aI}{pr:Y->Prop}{o:Out}(y:Y)(ho:o=out y)(hn:AZ o)(hp:pr y)
 (hk:aF (pt lo (.loop (wT L))::k1 y) kl eX:=by exact mW) (hF:Sub (fs y) F:=by exact mo):
 R (λh=>A7 B w0 lo L out k1 fs pr o (act n l [] none ro) h) B w0 kl F:=aim y ho hn hp hk hF
def kY(E:Enc α){ds:ae Tmp}{rest:ae bN}{d:Nat}{g:ak (Tmp×Bool)}{e:aD}{size bytes b':Nat}{s x:ay}{v:ah}{xs:ae α}(a:α)(y:E.Y){cs:ae ah}{k1 k2:ae OA}
 (hm:(xs.length+1)*bytes<=1073741824/\(xs.length+1)*size<=1073741824/\xs.length+1<=1073741824)
 (next:∀ad,R (λh=>aM P ds rest (act n ((d,.slice ad (xs.length+1) (xs.length+1))::l) D pm ro) h K) B w0 (ap E (.slice ad (xs.length+1) (xs.length+1)) (xs++[a])::k2) F)
 (hn:Nat.blt d n=true:=by rfl) (hg:bO l g=true:=by rfl)
 (hs:ev l s=v:=by conv=>lhs;whnf) (hx:ev l x=.slice (some ⟨b',0,some 0⟩) 1 1:=by rfl) (hk:aB (ap E v xs) kl k1:=by exact dU) (hc:aB (pt b' (.cells cs)) k1 k2:=by exact dU) (hp:cs=E.pat a y:=by rfl) (hF:Sub (E.fs a y) F:=by exact mo) (hz:E.n=size:=by rfl):
 R (λh=>aM P ds (⟨⟨some d,g,.append e size bytes s x⟩,[]⟩::rest) (act n l D pm ro) h K) B w0 kl F:=
 (ahZ hn hg hs hx hk hc hp hF hz hm).h λv' w st=>by
   obtain⟨S,⟨S1,S2,q,_⟩,_⟩:=st.own;obtain⟨ad,e⟩:=Rf q;rw[eF,u7]at e;subst e;exact next ad w st
section
variable {ds:ae Tmp} {rest:ae bN} {d:Nat} {g:ak (Tmp×Bool)}
variable{x y:ay}
def sW{e:aD}{size bytes:Nat}{zero:ae ah}(m:Nat)(hm:m*bytes<=1073741824/\m*size<=1073741824/\m<=1073741824)
 (next:∀b,R (λh=>aM P ds rest (act n ((d,.slice (some ⟨b,0,some 0⟩) m m)::l) D pm ro) h K) B w0 (pt b (.cells (zeros zero m))::kl) F)
 (hx:ev l x=.int .i64 (m:Int):=by rfl) (hy:ev l y=.int .i64 (m:Int):=by rfl) (hn:Nat.blt d n=true:=by rfl) (hg:bO l g=true:=by rfl):
 R (λh=>aM P ds (⟨⟨some d,g,.xQ e size bytes zero x y⟩,[]⟩::rest) (act n l D pm ro) h K) B w0 kl F:=(ahP hn hg hx hy hm).h next
variable{b o:Nat}{cs:ae ah}
def jN{cs':ae ah}{v:ah}(hs:cs.set o v=cs')(ho:o<cs.length)
 (next:R (λh=>aM P ds rest (act n l D pm ro) h K) B w0 (pt b (.cells cs')::kl') F)
 (hx:ev l x=.pointer (some ⟨b,o,none⟩):=by rfl) (hy:ev l y=v:=by rfl) (hv:cellsOf v=some [v]:=by rfl) (hk:aB (pt b (.cells cs)) kl kl':=by exact dU) (hg:bO l g=true:=by rfl):
 R (λh=>aM P ds (⟨⟨none,g,.store 1 x y⟩,[]⟩::rest) (act n l D pm ro) h K) B w0 kl F:=by subst hs;exact(ahT hg hx hy hv hk ho).h next
def ol(v:ah)(hv:cs[o]? =some v)
 (next:R (λh=>aM P ds rest (act n ((d,v)::l) D pm ro) h K) B w0 kl F)
 (hx:ev l x=.pointer (some ⟨b,o,none⟩):=by rfl) (hk:aB (pt b (.cells cs)) kl kl':=by exact dU) (hn:Nat.blt d n=true:=by rfl) (hg:bO l g=true:=by rfl):
 R (λh=>aM P ds (⟨⟨some d,g,.fE x⟩,[]⟩::rest) (act n l D pm ro) h K) B w0 kl F:=(ahU hn hg hx hk hv).h next
end
end
end Go.Ideal
namespace Go.Ideal
open Go.ChangeShapes Go.WideShapes Go.ChangeAt Go.RowKit
variable {P:Program}
def jE{α:Type}(P:Program)(t:aD)(E:Enc α)(G:α->Prop):Prop:=∀(w:Wd) (H:Type) (d:DataW H) (cs:ae ah),(∀i,i<w.h.next->w.z i)->jg P w.h t cs d->∃a y,cs=E.pat a y/\(∀f∈E.fs a y,f.p w)/\G a
def mF(n:Int):Prop:= -9223372036854775808<=n/\n<9223372036854775808
def rT{α:Type}(G:α->Prop)(xs:ae α):Prop:=xs.length<9223372036854775808/\∀x∈xs,G x
variable{t:aD}
def aiq(ht:P.underlying t=some (.int .i64)):jE P t ai mF:=λw H d cs hz r=>by
 obtain⟨n,rfl,_,h⟩:=r.mP ht;refine⟨n,(),rfl,(λf hf=>by cases hf),?_⟩;simp only[Lit.wf,IntKind.min,IntKind.max,IntKind.signed,IntKind.bits,eP,z8]at h;simp at h;exact⟨s6,s6⟩
def air(ht:P.underlying t=some .string):jE P t jR (λ_=>True):=λw H d cs hz r=>by
 obtain⟨n,rfl,_⟩:=r.D8 ht;exact⟨n,(),rfl,(λf hf=>by cases hf),trivial⟩
variable{α:Type}
def zx{e:aD}{E:Enc α}{G:α->Prop}(ht:P.underlying t=some (.slice e))(hn:P.cellsOf e=E.n)(he:jE P e E G):jE P t (az E) (rT G):=λw H d cs hz r=>by
 rcases r.oJ ht with⟨rfl,_⟩|⟨i,n,c,cells,els,rest,rfl,_,hnc,hl,hcl,hel⟩
 .exact⟨[],_,rfl,(λf hf=>by rw[bA.1 hf];exact .inl ⟨rfl,none,0,rfl,trivial⟩),s7,λx hx=>by cases hx⟩
 .have hmax:maxLen=9223372036854775807:=by decide
  obtain⟨xs,hx1,hx2⟩:=ML (p:=λk a=>(∃y,(cells.drop (k*E.n)).take E.n=E.pat a y/\∀f∈E.fs a y,f.p w)/\G a) n (λk hk=>by
   have hk':k<els.length:=s6
   have:=hel k els[k] (bG hk');rw[hn]at this;obtain⟨a,y,q1,q2,q3⟩:=he w H _ _ hz this;exact⟨a,⟨y,q1,q2⟩,q3⟩)
  refine⟨xs,_,rfl,λf hf=>?_,s6,λx hx=>?_⟩
  .rw[bA.1 hf];rcases hcl with h0|hcl
   .left;have:xs=[]:=j6.1 s6;exact⟨this,some ⟨i,0,some 0⟩,c,by rw[h0],Or.inl rfl⟩
   .right;refine⟨i,0,0,c,cells,⟨by rw[hx1],by rw[hx1];exact hnc.1,.inl rfl⟩,⟨hz i hcl.1,hcl.2⟩,λk x hk=>?_⟩;obtain⟨⟨y,q1,q2⟩,_⟩:=hx2 k x hk;refine⟨y,λj u hj=>?_,q2⟩;rw[<- q1,rE]at hj;split at hj
    .rw[jU]at hj;rw[eB];exact hj
    .cases hj
  .obtain⟨k,hk⟩:=iM hx;exact(hx2 k x hk).2
inductive Eo(P:Program):{α:Type}->List Field->Enc α->(α->Prop)->Prop
 |nil:Eo P [] Yw (λ_=>True)
 |cons {α β:Type} {f:Field} {fs:List Field} {E1:Enc α} {E2:Enc β} {G1:α->Prop} {G2:β->Prop} (h:jE P f.type E1 G1) (hn:P.cellsOf f.type=E1.n) (t:Eo P fs E2 G2):Eo P (f::fs) (Yv E1 E2) (λx=>G1 x.1/\G2 x.2)
def Eo.MM{w:Wd}{H:Type}(hz:∀i,i<w.h.next->w.z i):∀{α:Type} {fs:ae Field} {E:Enc α} {G:α->Prop},Eo P fs E G->∀(o0:Nat) (cs:ae ah) (ds:ae (DataW H)),cs.length=(fs.map λf=>P.cellsOf f.type).sum->ds.length=fs.length->
 fs.map (·.offset)=sums o0 (fs.map λf=>P.cellsOf f.type)->(∀(j:Nat) f d,fs[j]? =some f->ds[j]? =some d->jg P w.h f.type ((cs.drop (f.offset - o0)).take (P.cellsOf f.type)) d)->∃a y,cs=E.pat a y/\(∀f∈E.fs a y,f.p w)/\G a
 |_,_,_,_,.nil,o0,cs,ds,h1,h2,h3,h4=>⟨(),(),j6.1 tI,(λf hf=>by cases hf),trivial⟩
 |_,_,_,_,.cons (f:=f) (fs:=fs) (E1:=E1) (E2:=E2) h hn t,o0,cs,ds,h1,h2,h3,h4=>by
  match ds,h2 with
  |d::ds,h2=>
   simp only[fA,List.sum_cons,sums,BV]at h1 h3;obtain⟨ho,h3⟩:=h3;have r0:=h4 0 f d rfl rfl;rw[ho,nX,yX]at r0;obtain⟨a,y,q1,q2,q3⟩:=h w H d _ hz r0;obtain⟨b,z,u1,u2,u3⟩:=Eo.MM hz t (o0+P.cellsOf f.type) (cs.drop (P.cellsOf f.type)) ds tj ua h3 (λj g e hg he=>by
    exact cR)
   refine⟨(a,b),(y,z),?_,?_,q3,u3⟩
   .show cs=E1.pat a y++E2.pat b z;rw[<- q1,<- u1,nE]
   .exact px
def A8{fs:Array Field}{E:Enc α}{G:α->Prop}(ht:P.underlying t=some (.struct fs))(ho:fs.toList.map (·.offset)=sums 0 (fs.toList.map λf=>P.cellsOf f.type))
 (hs:P.cellsOf t=(fs.toList.map λf=>P.cellsOf f.type).sum) (h:Eo P fs.toList E G):jE P t E G:=λw H d cs hz r=>by
 obtain⟨ds,_,h1,h2,h3⟩:=r.Ye ht;refine h.MM hz 0 cs ds (by rw[h1,hs]) ua ho λj f d hf hd=>?_;rw[xN];exact h3 j f d (by rw[<- zZ];exact hf) hd
def jE.conv{β:Type}{E:Enc α}{E':Enc β}{G:α->Prop}{G':β->Prop}(h:jE P t E G)(hc:∀a y,G a->∃b z,E.pat a y=E'.pat b z/\E.fs a y=E'.fs b z/\G' b):jE P t E' G':=λw H d cs hz r=>by
 obtain⟨a,y,q1,q2,q3⟩:=h w H d cs hz r;obtain⟨b,z,e1,e2,e3⟩:=hc a y q3;exact⟨b,z,by rw[q1,e1],(λf hf=>q2 f (by rw[e2];exact hf)),e3⟩
section
variable {H:Type}
variable{α:Type}{w:Wd}{t:aD}{v:ah}{d:DataW H}
def zu.Ep{E:Enc α}{G:α->Prop}(h:zu P w t v d)(hz:∀i,i<w.h.next->w.z i)(ha:kD P t=true)(hr:jE P t E G):∃a y,v=.agg ⟨E.pat a y⟩/\(∀f∈E.fs a y,f.p w)/\G a:=by
 exact jt
def zu.oneG{E:Enc α}{G:α->Prop}(h:zu P w t v d)(hz:∀i,i<w.h.next->w.z i)(ha:kD P t=false)(hr:jE P t E G):∃a y,E.pat a y=[v]/\(∀f∈E.fs a y,f.p w)/\G a:=by
 exact ij
end
end Go.Ideal
namespace Go.Ideal
variable {P:Program}
def gq.Rq{w:Wd}{A:OA}:∀{kl kl':ae OA} {S:ae Nat},aB A kl kl'->gq w (A::kl') S->∃S',gq w kl S'/\S.Perm S'
 |_,_,S,.here,h=>⟨S,h,.refl _⟩
 |_,_,_,.there (C:=C) (l:=l) (l':=l') s,⟨S1,S2,h1,⟨T1,T2,h2,h3,e2⟩,e⟩=>by
  subst e e2;obtain⟨S',q1,q2⟩:=gq.Rq (w:=w) (A:=A) s ⟨S1,T2,h1,h3,rfl⟩;refine⟨T1++S',⟨T1,S',h2,q1,rfl⟩,?_⟩;have:(S1++(T1++T2)).Perm (T1++(S1++T2)):=by
   exact lA
  exact this.trans (q2.append_left T1)
def aB.at{α:Type}{a:α}:∀{l:ae α} {k:Nat},l[k]? =some a->aB a l (l.eraseIdx k)
 |[],k,h=>by simp at h
 |b::l,0,h=>by
  simp at h;subst h;exact .here
 |b::l,k+1,h=>.there (aB.at (l:=l) (k:=k) tf)
def Yz{α:Type}(a:α):∀(l:ae α) (k:Nat),(l.set k a).eraseIdx k=l.eraseIdx k
 |[],k=>rfl
 |b::l,0=>rfl
 |b::l,k+1=>by simp[Yz a l k]
def R.perm{B:ae Nat}{w0:Wd}{kl eX:ae OA}{F:ae aI}{Q:IH->Prop}(hp:∀w S,gq w kl S->∃S',gq w eX S'/\S.Perm S')(h:R Q B w0 eX F):R Q B w0 kl F:=λw s=>by
 obtain⟨S,h1,h2,h3⟩:=s.own;obtain⟨S',q1,q2⟩:=hp w S h1;exact h w ⟨s.agree,s.le,s.fH,⟨S',q1,q2.nodup h2,λi hi=>h3 i (q2.mem_iff.2 hi)⟩,s.facts⟩
section
variable {B:ae Nat} {w0:Wd} {kl kl' bz k1 k2:ae OA} {F:ae aI} {K:KO} {n:Nat} {l:qr} {D:ae Deferred} {pm:ak FrameMode} {ro:ak Nat} {Q:IH->Prop}
end
end Go.Ideal
namespace Go.Ideal
variable {P:Program}
def Rs{X:Type}(n:Nat)(D:ae Deferred)(pm:ak FrameMode)(ro:ak Nat)(B:ae Nat)(w0:Wd)(L:X->qr)(KL:X->ae OA)(FF:X->ae aI)(inv:X->Prop)(l0:qr)(bz:ae OA)(F0:ae aI)(K:KO):KO:=λo a h=>
 match o with
 | .normal=>∃(x:X) (l:qr) (w:Wd),a=act n l D pm ro/\sub (L x++l0) l/\w.h=h/\St B w0 (KL x++bz) (FF x++F0) w/\inv x
 |o=>K o a h
section
variable {B:ae Nat} {w0:Wd} {kl kl' bz k1 k2:ae OA} {F:ae aI} {K:KO} {n:Nat} {l:qr} {D:ae Deferred} {pm:ak FrameMode} {ro:ak Nat} {Q:IH->Prop}
section
variable {X:Type} {n2:Nat} {D2:ae Deferred} {pm2:ak FrameMode} {ro2:ak Nat} {B2:ae Nat} {w2:Wd} {L:X->qr} {KL:X->ae OA} {FF:X->ae aI} {inv:X->Prop} {l0:qr} {F0:ae aI}
def aiu{a:bi}{ch:ae PanicEntry}(h:R (λh=>K (.panic ch) a h) B w0 kl F):R (λh=>Rs n2 D2 pm2 ro2 B2 w2 L KL FF inv l0 bz F0 K (.panic ch) a h) B w0 kl F:=h
def MV{Jq eX:ae OA}(x:X)(hi:inv x)(hl:sub (L x++l0) l:=by exact Jo)
 (ha:dO (KL x) bz Jq:=by exact Jn)
 (hk:aF Jq kl eX:=by exact mW) (hF:Sub (FF x) F:=by exact mo)
 (AP:qa F0 F:=by exact Yu):
 R (λh=>Rs n D pm ro B w0 L KL FF inv l0 bz F0 K .normal (act n l D pm ro) h) B w0 kl F:=λw s=>by
 refine⟨x,l,w,rfl,hl,rfl,?_,hi⟩;have s':=(s.lF hk).drop;rw[<- ha.eq]at s';exact⟨s'.agree,s'.le,s'.fH,s'.own,λf hf=>(fq.1 hf).elim (λhf=>s.facts f (hF.mem f hf)) (λhf=>s.facts f (AP.mem f hf))⟩
end
def YA{X:Type}{x y:dz}{l0:qr}{L2:X->qr}{yz:X->ae OA}{yA:X->ae aI}(ks:ae Nat)(L:X->qr)(KL:X->ae OA)(FF:X->ae aI)(inv:X->Prop)
 (hx:R (λh=>EV P x (act n l D pm ro) h (Rs n D pm ro B w0 L KL FF inv l0 bz F K)) B w0 kl F)
 (hy:∀z,inv z->R (λh=>EV P y (act n (L2 z) D pm ro) h K) B w0 (yz z) (yA z))
 (h0:wS l (ks.map λk=>(k,wF)) l0:=by exact MH)
 (hal:∀x,dO (L x) l0 (L2 x):=by exact rR)
 (hak:∀x,dO (KL x) bz (yz x):=by exact rR) (sS:∀x,dO (FF x) F (yA x):=by exact rR):
 R (λh=>EV P x (act n l D pm ro) h (Cq P y K)) B w0 kl F:=λw s=>by
 refine QN (hx w s) _ ?_;intro o a h hm;cases o with
 |normal=>
  obtain⟨z,l',w',rfl,hl,rfl,s',hz⟩:=hm;have:=hy z hz;rw[<- (hak z).eq,<- (sS z).eq,<- (hal z).eq]at this;exact XT (QT hl) (this w' s')
 |exit j=>exact hm
 |ret=>exact hm
 |panic ch=>exact hm
end
end Go.Ideal
namespace Go.Ideal
variable {P:Program}
def YB{n k:Nat}(h:k<=n):upTo n (.int .i64 (k:Int))=some k:=by
 show cond (Nat.ble k n) (some k) none=_;rw[show Nat.ble k n=true from by rw[uY];exact h];rfl
section
variable {B:ae Nat} {w0:Wd} {kl kl' bz k1 k2:ae OA} {F:ae aI} {K:KO} {n:Nat} {l:qr} {D:ae Deferred} {pm:ak FrameMode} {ro:ak Nat} {Q:IH->Prop} {ds:ae Tmp} {rest:ae bN} {d:Nat} {g:ak (Tmp×Bool)}
end
