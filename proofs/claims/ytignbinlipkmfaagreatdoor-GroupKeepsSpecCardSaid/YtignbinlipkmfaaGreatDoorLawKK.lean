/- Part. -/
import Derived.Test.YtignbinlipkmfaaGreatDoorLibACK
import Derived.Test.YtignbinlipkmfaaGreatDoorSaneHK
set_option linter.all false
set_option maxRecDepth 10000
set_option maxHeartbeats 4000000
namespace Go.Proofs.YtignbinlipkmfaaGreatDoor
open Go.Ideal Kd Canon
variable{k:bN}{s t:ae Int}
theorem G8.same{a b:Bool×Int}(h:G8 k s t a)(h2:G8 k s t b):a=b:=by
 obtain⟨a1,a2⟩:=a;obtain⟨b1,b2⟩:=b;by_cases hK:eY k
 .obtain⟨p1,p2⟩:=h.ok hK;obtain⟨q1,q2⟩:=h2.ok hK;dsimp only at p1 p2 q1 q2;have:a1=b1:=by rw[um,p2,q2]
  rw[this,p1,q1]
 .rw[h.nk hK,h2.nk hK]
theorem anG{G:ae (ae Int)}{cl:ae Int}{vh vs vr vc vu gh gc vn vl sc st vG wS:ah}(hB:Cn k)(hs:s.length<2^63)(ht:t.length<2^63)(hl:cl.length<2^63)(hG:G.length<2^63)(Ew:∀x∈G,x.length<2^63):
 dL Tryz.prog 4 [.agg ⟨mM k vh vs vr vc vu gh gc vn vl⟩,.agg ⟨[sc,st]⟩,.agg ⟨[vG,wS]⟩] (Gl 6::aj (aA ai) vG G::aj ai wS cl::aj ai sc s::aj ai st t::lN k vh vs vr vc vu gh gc vn vl []) (.bool true):=by
 refine gB 4 λB w0=>?_;dsimp only[lN];refine gF ai wS cl λacl Za Hl=>?_;subst Hl;refine gF (aA ai) vG G λaG cG eG=>?_;subst eG;refine go ?_;intro b3 b4 b5;refine gP b3 ?_;refine gP b4 ?_;refine gP b5 ?_;refine gC aaJ λ_ _=>?_;refine gC (Y8 (k:=k) hB) λb hb=>?_;cases b with
 |false=>
  exact fH
 |true=>
 obtain⟨qC,_,_⟩:=hb rfl;clear hb;have hS:=ug.YT hB qC;refine gC (Rf (s:=s) (t:=t) (sc:=sc) (st:=st)) λb hb=>?_;cases b with
 |false=>
  exact fH
 |true=>
 clear hb;refine gH ?_ ?_<;>intro h1
 rotate_left
 .exact fH
 refine aB ?_ ?_<;>intro h2
 .exact fH
 refine gN G.length 38 (λj=>j<=G.length) (bP _) ?_;rintro j hj;refine aB ?_ ?_<;>intro h3
 .refine gX (aA ai) (xs:=G) λ_ _ x (vx:ah) hx=>?_;refine gF ai vx x λax cx ex=>?_;subst ex;refine aB ?_ ?_<;>intro h4
  .exact fH
  refine go ?_;exact qS
 refine gC (Ep (k:=k) (s:=s) (t:=t) (sc:=sc) (st:=st) hS hs ht) λy1 hy1=>?_;refine gC (amj (k:=k) (s:=s) (t:=t) (sc:=sc) (st:=st) hS hs ht) λy2 hy2=>?_;obtain rfl:y1=y2:=hy1.same hy2;clear hy2 hy1;obtain⟨ok,e⟩:=y1;dsimp only;refine gH ?_ ?_<;>intro h5
 .exact absurd h5 tt
 refine gH ?_ ?_<;>intro h6
 .exact absurd rfl h6
 refine gC (amn (G:=G) (cl:=cl) (s:=s) (t:=t) (sc:=sc) (st:=st) tr hG Ew hs ht) λc1 hc1=>?_;refine gC (amo (G:=G) (cl:=cl) (s:=s) (t:=t) (sc:=sc) (st:=st) tr hG Ew hs ht) λc2 hc2=>?_;obtain rfl:c1=c2:=by rw[um,hc1,hc2]
 refine aM ?_;exact congrArg Value.bool (eB rfl)
