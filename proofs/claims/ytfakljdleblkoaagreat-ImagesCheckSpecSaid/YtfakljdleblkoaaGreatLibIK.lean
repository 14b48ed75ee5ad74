/-
  Part LibIK.
-/
import Derived.Test.YtfakljdleblkoaaGreatPlainCK
import Derived.Test.YtfakljdleblkoaaGreatLibHK
import Derived.Test.YtfakljdleblkoaaGreatLibBK
set_option linter.all false
set_option maxRecDepth 10000
set_option maxHeartbeats 1000000
namespace Go.Proofs.YtfakljdleblkoaaGreat
open Go.Ideal Canon
set_option maxHeartbeats 4000000
open Go.Ideal Kd Canon
structure aga(p:List Clue):Prop where
 len:p.length<9223372036854775808
 vals:∀g∈p,g.values.length<9223372036854775808
theorem eF.decl{k:bS}(h:eF k):k.decl=Kd.bF k.decl:=congrArg bS.decl h.e
theorem eF.lists{k:bS}(h:eF k):k.lists=lc k.decl:=by
 have:=congrArg bS.lists h.e;have h2:(j6 (Kd.bF k.decl)).lists=lc (Kd.bF k.decl):=rfl;rw[h2,<- h.decl]at this;exact this
theorem eF.grid{k:bS}(h:eF k):k.grid=aO k.decl:=by
 have:=congrArg bS.grid h.e;have h2:(j6 (Kd.bF k.decl)).grid=aO (Kd.bF k.decl):=rfl;rw[h2,<- h.decl]at this;exact this
theorem eF.aD{k:bS}(h:eF k):k.aD=bI (aO k.decl):=by
 have:=congrArg bS.aD h.e;have h2:(j6 (Kd.bF k.decl)).aD=bI (aO (Kd.bF k.decl)):=rfl;rw[h2,<- h.decl]at this;exact this
theorem eF.typ{k:bS}(h:eF k):E8 k.decl:=by
 have:=h.b.typ;rw[<- h.decl]at this;exact this
theorem eF.iK{k:bS}(h:eF k):TD k:=by
 intro c hc;rw[h.decl]at hc;obtain⟨q,hq,rfl⟩:=eG.1 (show c∈k.decl.aJ.map (lI (bX k.decl))from hc);have h1:=w9 (h.b.rs.ML q hq);have h2:(bX k.decl).length=8+k.decl.regions.length:=by
  unfold bX;rw[iE,cz];rfl
 have h3:k.lists.length=8+k.decl.regions.length:=by
  rw[h.lists];unfold lc;rw[iE,cz,cz,o8]
 show 0<=((dS q.on (bX k.decl):Nat):Int)/\((dS q.on (bX k.decl):Nat):Int)<_;omega
abbrev NV(k:bS)(grid:List Int):Prop:=Fin (k.grid.cells.length:Int) (k.decl.symbols.length:Int) grid
structure ajE(k:bS)(p:List Clue)(grid:List Int)(e:Int):Prop where
 nk:¬eF k->e=180
 nf:eF k->¬NV k grid->e=200
 np:eF k->NV k grid->¬Ck k p->e=190
 ok:eF k->NV k grid->Ck k p->e=0
