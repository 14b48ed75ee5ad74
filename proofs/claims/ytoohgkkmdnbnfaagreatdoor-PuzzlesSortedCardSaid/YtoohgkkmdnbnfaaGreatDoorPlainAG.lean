/-
  Kinds, in plain lists: declarations, how names are resolved; how they lie in cells.
-/
import Derived.Test.YtoohgkkmdnbnfaaGreatDoorIdealNG
set_option linter.all false
namespace Kd
open Go Go.Ideal
structure OG where
 name:ByteArray
 value:Int
 deriving DecidableEq
structure OH where
 name:ByteArray
 lists:List (List Int)
 deriving DecidableEq
structure Fq where
 name:ByteArray
 on:ByteArray
 family:Int
 type:Int
 lo:Int
 hi:Int
 deriving DecidableEq
structure Fs where
 name:ByteArray
 on:ByteArray
 kind:Int
 family:Int
 names:List ByteArray
 others:List ByteArray
 set:Int
 other:Int
 op:Int
 n:Int
 AL:ByteArray
 bA:Int
 deriving DecidableEq
structure oV where
 name:ByteArray
 version:Int
 shape:Int
 w:Int
 h:Int
 holes:List Int
 symbols:List OG
 regions:List OH
 tF:List Fq
 rules:List Fs
 deriving DecidableEq
structure oW where
 shape:Int
 w:Int
 h:Int
 holes:List Int
 cells:List Int
 deriving DecidableEq
structure Fu where
 decl:oV
 grid:oW
 Rb:List (List Int)
 lists:List (List (List Int))
 deriving DecidableEq
def OI:List ByteArray:=[⟨⟨[99,101,108,108,115]⟩⟩,⟨⟨[114,111,119,115]⟩⟩,⟨⟨[99,111,108,117,109,110,115]⟩⟩,⟨⟨[100,105,97,103,111,110,97,108,115]⟩⟩,⟨⟨[97,114,111,117,110,100]⟩⟩,⟨⟨[110,101,97,114]⟩⟩,⟨⟨[112,97,105,114,115]⟩⟩,⟨⟨[97,108,108]⟩⟩]
def Fv(d:oV):List ByteArray:=d.symbols.map (·.name)
def AO(d:oV):List ByteArray:=OI++d.regions.map (·.name)
def Fw(d:oV):List ByteArray:=d.tF.map (·.name)
def OJ(d:oV):List ByteArray:=d.rules.map (·.name)
structure OL(xE OM Fx:List ByteArray)(r:Fs):Prop where
 on:r.on=⟨⟨[]⟩⟩\/r.on∈OM
 names:∀s∈r.names,s∈xE
 others:∀s∈r.others,s∈xE
 AL:r.AL=⟨⟨[]⟩⟩\/r.AL∈Fx
structure Rc(d:oV):Prop where
 xE:d.symbols.length<=16
 Re:(Fv d).Nodup
 Rf:(AO d).Nodup
 Rh:(Fw d).Nodup
 Ri:∀c∈d.tF,c.on∈AO d
 Rj:(OJ d).Nodup
 Rk:∀r∈d.rules,OL (Fv d) (AO d) (Fw d) r
end Kd
namespace Kd
open Go Go.Ideal
structure OO(s w h:Int)(holes:List Int):Prop where
 sh:s=1\/s=2
 wi:1<=w/\w<=16
 he:1<=h/\h<=16
 len:(holes.length:Int)<w*h
 inc:holes.Pairwise (·<·)
 mem:∀x∈holes,0<=x/\x<w*h
def tY(n:Nat)(holes:List Int):List Int:=((List.range n).map λi:Nat=>(i:Int)).filter λi=>!decide (i∈holes)
theorem OP(n:Nat)(holes:List Int):(tY n holes).length<=n:=by
 unfold tY;refine iO (List.length_filter_le _ _) ?_;simp
theorem OQ{n:Nat}{holes:List Int}{x:Int}(h:x∈tY n holes):0<=x/\x<n/\x∉holes:=by
 unfold tY at h;obtain⟨h1,h2⟩:=List.mem_filter.1 h;obtain⟨i,hi,rfl⟩:=jN.1 h1;have:=uo.1 hi;exact⟨by omega,by omega,by simpa using h2⟩
def Fy(w h:Int)(holes:List Int):List Int:=tY (w*h).toNat holes
theorem FB{w h:Int}(hw:1<=w/\w<=16)(hh:1<=h/\h<=16):1<=w*h/\w*h<=256:=by
 have h1:1*1<=w*h:=Int.mul_le_mul hw.1 hh.1 (by omega) (by omega);have h2:w*h<=16*16:=Int.mul_le_mul hw.2 hh.2 (by omega) (by omega);omega
structure xG(g:oW):Prop where
 make:OO g.shape g.w g.h g.holes
 cells:g.cells=Fy g.w g.h g.holes
theorem xG.cell{g:oW}(h:xG g):∀x∈g.cells,0<=x/\x<256:=by
 intro x hx;rw[h.cells]at hx;have h1:=OQ hx;have h2:=FB h.make.wi h.make.he;omega
theorem xG.len{g:oW}(h:xG g):g.cells.length<=256:=by
 rw[h.cells];have h1:=OP (g.w*g.h).toNat g.holes;have h2:=FB h.make.wi h.make.he;unfold Fy;omega
end Kd
namespace Kd
open Go Go.Ideal
end Kd
namespace Kd
open Go Go.Ideal
def FC(p:Int):List Int->Nat
 |[]=>0
 |a::l=>if p=a then 0 else FC p l+1
structure OT(g:oW)(ps:List Int):Prop where
 ne:ps≠[]
 mem:∀p∈ps,p∈g.cells
 nd:(ps.map λp=>(FC p g.cells:Int)).Nodup
structure Rl(g:oW)(rs:List (List Int)):Prop where
 len:rs.length<=64
 all:∀ps∈rs,OT g ps
end Kd
namespace Kd
open Go Go.Ideal
end Kd
namespace Kd
open Go Go.Ideal Canon
def az:Enc Clue:=⟨3,Value,λg v=>[.int .i64 g.bA,.int .i64 g.at_,v],λg v=>[bg fo v g.values],λ_ _=>rfl⟩
abbrev lg(g:Clue)(v:Value):Value:=.agg ⟨[.int .i64 g.bA,.int .i64 g.at_,v]⟩
def jK:List Int->Int
 |[]=>0
 |a::l=>if a≠0 then a else jK l
def aV(a b:Clue):Int:=jK [aO a.bA b.bA,aO a.at_ b.at_]
theorem kD(a b:Clue):aV a b=aZ aO [a.bA,a.at_] [b.bA,b.at_]:=by
 unfold aV;simp only[jK,aZ]
theorem nM{a b:Clue}:aV a b<0↔a.bA<b.bA\/(a.bA=b.bA/\a.at_<b.at_):=by
 unfold aV aO;simp only[jK];split<;>split at *<;>(try split at *)<;>(try split at *)<;>(try split at *)<;>omega
theorem AP{a b c:Clue}(h1:aV a b<0)(h2:aV b c<0):aV a c<0:=by
 rw[nM]at *;omega
def OU(k:Fu)(g:Clue):Prop:=∃(c:Fq) (l:List (List Int)),0<=g.bA/\k.decl.tF[g.bA.toNat]? =some c/\k.lists[c.family.toNat]? =some l/\0<=g.at_/\g.at_<l.length/\
 ((c.type=1/\g.values.length=1/\∀x∈g.values,0<=x/\x<=(k.decl.symbols.length:Int) - 1)\/(c.type=2/\g.values.length=1/\∀x∈g.values,c.lo<=x/\x<=c.hi)\/
   (c.type≠1/\c.type≠2/\g.values.length<=8/\∀x∈g.values,1<=x/\x<=256))
structure Rm(k:Fu)(p:List Clue):Prop where
 len:p.length<=512
 right:∀g∈p,OU k g
 sorted:∀(i:Nat) a b,p[i]? =some a->p[i+1]? =some b->aV a b<0
end Kd
namespace Kd
open Canon
theorem je{a b:Clue}:aV a b=0↔a.bA=b.bA/\a.at_=b.at_:=by
 unfold aV aO;simp only[jK];split<;>split at *<;>(try split at *)<;>(try split at *)<;>(try split at *)<;>omega
theorem OV(a b:Clue):iw a b=if aV a b≠0 then aV a b else aZ aO a.values b.values:=by
 rw[Ep,<- kD]
theorem kE{a b:Clue}:iw a b<0↔aV a b<0\/(aV a b=0/\aZ aO a.values b.values<0):=by
 rw[OV];split<;>omega
structure fC(xs rs:List Clue):Prop where
 inc:rs.Pairwise λa b=>aV a b<0
 sub:∀r∈rs,r∈xs
 all:∀x∈xs,∃r∈rs,aV x r=0/\¬aZ aO x.values r.values<0
theorem AQ{rs:List Clue}(h:rs.Pairwise λa b=>aV a b<0){a b:Clue}(ha:a∈rs)(hb:b∈rs)(he:aV a b=0):a=b:=by
 induction h with
 |nil=>cases ha
 |cons h1 _ ih=>
  rcases aR.1 ha with e1|ha'<;>rcases aR.1 hb with e2|hb'
  ·rw[e1,e2]
  ·have:=h1 b hb';rw[<- e1]at this;omega
  ·have:=h1 a ha';rw[<- e2]at this;rw[je]at he;rw[nM]at this;omega
  ·exact ih ha' hb'
theorem fC.mem{xs rs rs':List Clue}(h:fC xs rs)(h':fC xs rs'){r:Clue}(hr:r∈rs):r∈rs':=by
 obtain⟨r2,m2,p2,v2⟩:=h'.all r (h.sub r hr);obtain⟨r1,m1,p1,v1⟩:=h.all r2 (h'.sub r2 m2);have h3:aV r r1=0:=by rw[je]at *;omega
 have:=AQ h.inc hr m1 h3;subst this;have hO:=kW kV;have h4:aZ aO r.values r2.values=0:=by
  have:=hO.neg r2.values r.values;have:=hO.neg r.values r2.values;omega
 have h5:=(hO.zero _ _).1 h4;rw[je]at p2;have:r=r2:=by cases r;cases r2;simp_all
 rw[this];exact m2
theorem FD:∀{a b:List Clue},(a.Pairwise λx y=>aV x y<0)->(b.Pairwise λx y=>aV x y<0)->(∀x,x∈a↔x∈b)->a=b
 |[],[],_,_,_=>rfl
 |[],y::b,_,_,h=>absurd ((h y).2 (bC ..)) (by simp)
 |x::a,[],_,_,h=>absurd ((h x).1 (bC ..)) (by simp)
 |x::a,y::b,ha,hb,h=>by
  obtain⟨a1,a2⟩:=rf.1 ha;obtain⟨b1,b2⟩:=rf.1 hb;have hxy:x=y:=by
   rcases aR.1 ((h x).1 (bC ..))with e|e
   ·exact e
   ·rcases aR.1 ((h y).2 (bC ..))with e'|e'
    ·exact e'.symm
    ·have q1:=b1 x e;have q2:=a1 y e';rw[nM]at q1 q2;omega
  subst hxy;have FE:∀z:Clue,¬aV z z<0:=λz h=>by rw[nM]at h;omega
  rw[FD a2 b2 λz=>⟨λhz=>?_,λhz=>?_⟩]
  ·rcases aR.1 ((h z).1 (aY _ hz))with e|e
   ·subst e;exact absurd (a1 z hz) (FE z)
   ·exact e
  ·rcases aR.1 ((h z).2 (aY _ hz))with e|e
   ·subst e;exact absurd (b1 z hz) (FE z)
   ·exact e
theorem fC.uniq{xs rs rs':List Clue}(h:fC xs rs)(h':fC xs rs'):rs=rs':=FD h.inc h'.inc λr=>⟨h.mem h',h'.mem h⟩
theorem fC.OW{xs xs' rs:List Clue}(h:fC xs rs)(h1:∀x,x∈xs'↔x∈xs):fC xs' rs:=⟨h.inc,λr hr=>(h1 r).2 (h.sub r hr),λx hx=>h.all x ((h1 x).1 hx)⟩
theorem fC.self{xs rs:List Clue}(h:fC xs rs):fC rs rs:=⟨h.inc,λ_ h=>h,λx hx=>⟨x,hx,by rw[je];exact⟨rfl,rfl⟩,by have:=((kW kV).zero x.values x.values).2 rfl;omega⟩⟩
def cgo{β:Type}(eq:β->β->Bool)(p:β):List β->List β
 |[]=>[]
 |y::l=>cond (eq y p) (cgo eq y l) (y::cgo eq y l)
def jf{β:Type}(eq:β->β->Bool):List β->List β
 |[]=>[]
 |x::l=>x::cgo eq x l
theorem AU{β:Type}{eq:β->β->Bool}:∀{l:List β} {p r:β},r∈cgo eq p l->r∈l
 |y::l,p,r,h=>by
  unfold cgo at h;cases e:eq y p with
  |true=>rw[e]at h;exact aY _ (AU h)
  |false=>
   rw[e]at h;rcases aR.1 h with rfl|h
   ·exact bC ..
   ·exact aY _ (AU h)
theorem OX{β:Type}{eq:β->β->Bool}:∀{l:List β} {r:β},r∈jf eq l->r∈l
 |x::l,r,h=>by
  rcases aR.1 h with rfl|h
  ·exact bC ..
  ·exact aY _ (AU h)
theorem AV{β γ:Type}{eq:β->β->Bool}{eq':γ->γ->Bool}(f:β->γ)(h:∀a b,eq a b=eq' (f a) (f b)):∀(l:List β) (p:β),(cgo eq p l).map f=cgo eq' (f p) (l.map f)
 |[],_=>rfl
 |y::l,p=>by
  rw[jh,cgo,cgo,<- h];cases eq y p with
  |true=>exact AV f h l y
  |false=>
   show f y::(cgo eq y l).map f=f y::_;rw[AV f h l y]
theorem OY{β γ:Type}{eq:β->β->Bool}{eq':γ->γ->Bool}(f:β->γ)(h:∀a b,eq a b=eq' (f a) (f b)):∀(l:List β),(jf eq l).map f=jf eq' (l.map f)
 |[]=>rfl
 |x::l=>by
  show f x::(cgo eq x l).map f=f x::_;rw[AV f h l x]
abbrev iy(a b:Clue):Bool:=decide (aV a b=0)
theorem FH:∀(l:List Clue) (p:Clue),((p::l).Pairwise λx y=>¬iw y x<0)->(p::cgo iy p l).Pairwise (λa b=>aV a b<0)/\∀x∈l,(∃r∈p::cgo iy p l,aV x r=0/\¬aZ aO x.values r.values<0)
 |[],p,_=>⟨List.pairwise_singleton ..,λx hx=>by cases hx⟩
 |y::l,p,h=>by
  obtain⟨h1,h2⟩:=rf.1 h;have hyp:=h1 y (bC ..);obtain⟨i1,i2⟩:=FH l y h2;obtain⟨i3,i4⟩:=rf.1 i1;have hO:=kW kV;unfold cgo;by_cases e:aV y p=0
  ·rw[show iy y p=true from mO e,cond_true];have ep:∀z,aV p z=aV y z:=λz=>by
    rw[je]at e;unfold aV;rw[e.1,e.2]
   refine⟨rf.2 ⟨λz hz=>by rw[ep];exact i3 z hz,i4⟩,λx hx=>?_⟩;have hp:∀x:Clue,aV x y=0->¬aZ aO x.values y.values<0->∃r∈p::cgo iy y l,aV x r=0/\¬aZ aO x.values r.values<0:=λx q1 q2=>by
    refine⟨p,bC ..,by rw[je]at *;omega,λq=>?_⟩;have hpy:¬aZ aO y.values p.values<0:=λq=>hyp (kE.2 (.inr ⟨e,q⟩));by_cases e1:aZ aO x.values y.values=0
    ·rw[(hO.zero _ _).1 e1]at q;exact hpy q
    by_cases e2:aZ aO y.values p.values=0
    ·rw[<- (hO.zero _ _).1 e2]at q;exact q2 q
    have:=hO.neg p.values y.values;have:=hO.neg y.values p.values;have:=hO.neg y.values x.values;have:=hO.neg x.values y.values;have:=hO.trans p.values y.values x.values (by omega) (by omega);have:=hO.neg p.values x.values;omega
   rcases aR.1 hx with rfl|hx
   ·exact hp x (by rw[je];exact⟨rfl,rfl⟩) (by have:=(hO.zero x.values x.values).2 rfl;omega)
   ·obtain⟨r,m,q1,q2⟩:=i2 x hx;rcases aR.1 m with rfl|m
    ·exact hp x q1 q2
    ·exact⟨r,aY _ m,q1,q2⟩
  ·rw[show iy y p=false from mQ e,cond_false];have hpy:aV p y<0:=by
    have:¬aV y p<0:=λq=>hyp (kE.2 (.inl q));rw[nM]at *;rw[je]at e;omega
   refine⟨rf.2 ⟨λz hz=>?_,i1⟩,λx hx=>?_⟩
   ·rcases aR.1 hz with rfl|hz
    ·exact hpy
    ·exact AP hpy (i3 z hz)
   ·rcases aR.1 hx with rfl|hx
    ·exact⟨x,aY _ (bC ..),by rw[je];exact⟨rfl,rfl⟩,by have:=(hO.zero x.values x.values).2 rfl;omega⟩
    ·obtain⟨r,m,q⟩:=i2 x hx;exact⟨r,aY _ m,q⟩
theorem OZ{xs ys:List Clue}(hp:ys.Perm xs)(hs:ys.Pairwise λx y=>¬iw y x<0):fC xs (jf iy ys):=by
 cases ys with
 |nil=>exact⟨List.Pairwise.nil,(λr hr=>by cases hr),(λx hx=>by have:=hp.mem_iff.2 hx;cases this)⟩
 |cons p l=>
  obtain⟨h1,h2⟩:=FH l p hs;refine⟨h1,λr hr=>hp.mem_iff.1 (OX hr),λx hx=>?_⟩;rcases aR.1 (hp.mem_iff.2 hx)with rfl|hx
  ·exact⟨x,bC ..,by rw[je];exact⟨rfl,rfl⟩,by have:=((kW kV).zero x.values x.values).2 rfl;omega⟩
  ·exact h2 x hx
def opn(p:List Clue)(x:Clue):Bool:=match p.getLast? with
 |none=>true
 |some y=>decide (0<aV x y)
theorem AX{p:List Clue}{b x:Clue}:opn (p++[b]) x=decide (0<aV x b):=by
 unfold opn;rw[List.getLast?_append];rfl
theorem xH{a b:Clue}:0<aV a b↔aV b a<0:=by
 rw[nM];unfold aV aO;simp only[jK];split<;>split at *<;>(try split at *)<;>(try split at *)<;>(try split at *)<;>omega
structure mE(l p:List Clue)(n:Nat):Prop where
 inc:p.Pairwise λa b=>aV a b<0
 sub:∀r∈p,r∈l
 done:∀x∈l,opn p x=false->∃r∈p,aV x r=0/\¬aZ aO x.values r.values<0
 cnt:l.countP (opn p)+n<=l.length
theorem O0{l:List Clue}:mE l [] 0:=⟨List.Pairwise.nil,(λr hr=>by cases hr),(λx hx h=>by cases h),List.countP_le_length⟩
theorem FI{α:Type}{p q:α->Bool}:∀{l:List α} {b:α},b∈l->p b=true->q b=false->(∀x,q x=true->p x=true)->l.countP q+1<=l.countP p
 |x::l,b,hb,h1,h2,h3=>by
  rw[List.countP_cons,List.countP_cons];rcases aR.1 hb with rfl|hb
  ·have:=List.countP_mono_left (l:=l) (p:=q) (q:=p) λx _=>h3 x;rw[h1,h2];simp only[if_true];simp;omega
  ·have:=FI hb h1 h2 h3;by_cases e:q x=true
   ·rw[if_pos e,if_pos (h3 x e)];omega
   ·rw[if_neg e];omega
theorem FJ:∀{p:List Clue} {y:Clue},(p.Pairwise λa b=>aV a b<0)->p.getLast? =some y->∀a∈p,a=y\/aV a y<0
 |[],y,_,h,a,ha=>by cases ha
 |[x],y,_,h,a,ha=>by
  cases h;exact .inl (bV.1 ha)
 |x::z::p,y,hp,h,a,ha=>by
  obtain⟨h1,h2⟩:=rf.1 hp;have h':(z::p).getLast? =some y:=by rw[List.getLast?_cons_cons]at h;exact h
  rcases aR.1 ha with rfl|ha
  ·exact .inr (h1 y (List.mem_of_getLast? h'))
  ·exact FJ h2 h' a ha
theorem mE.step{l p:List Clue}{n:Nat}{b:Clue}(h:mE l p n)(hb:b∈l)(ho:opn p b=true)(hl:∀x∈l,opn p x=true->¬iw x b<0):mE l (p++[b]) (n+1):=by
 have hab:∀y,p.getLast? =some y->aV y b<0:=λy hy=>by
  unfold opn at ho;rw[hy]at ho;exact xH.1 (jO ho)
 refine⟨List.pairwise_append.2 ⟨h.inc,List.pairwise_singleton ..,λa ha b' hb'=>?_⟩,λr hr=>?_,λx hx hc=>?_,?_⟩
 ·rw[bV.1 hb'];cases e:p.getLast? with
  |none=>rw[List.getLast?_eq_none_iff.1 e]at ha;cases ha
  |some y=>
   have h2:=hab y e;rcases FJ h.inc e a ha with rfl|h1
   ·exact h2
   ·exact AP h1 h2
 ·rcases dS.1 hr with hr|hr
  ·exact h.sub r hr
  ·rw[bV.1 hr];exact hb
 ·rw[AX]at hc;have hc:=uw hc;cases e:opn p x with
  |true=>
   have h1:=hl x hx e;rw[kE]at h1;refine⟨b,by simp,?_,?_⟩
   ·by_cases h2:aV x b<0
    ·exact absurd (.inl h2) h1
    ·omega
   ·intro h2;by_cases h3:aV x b<0
    ·exact h1 (.inl h3)
    ·exact h1 (.inr ⟨by omega,h2⟩)
  |false=>
   obtain⟨r,m,q⟩:=h.done x hx e;exact⟨r,gY _ m,q⟩
 ·have:=FI (p:=opn p) (q:=opn (p++[b])) hb ho (by rw[AX];exact mQ (by rw[xH,nM];omega)) (λx hx=>by
   rw[AX]at hx;have hx:=jO hx;unfold opn;cases e:p.getLast? with
   |none=>rfl
   |some y=>exact mO (xH.2 (AP (hab y e) (xH.1 hx))))
  have:=h.cnt;omega
theorem mE.stop{l p:List Clue}{n:Nat}(h:mE l p n)(hn:∀x∈l,opn p x=false):fC l p:=⟨h.inc,h.sub,λx hx=>h.done x hx (hn x hx)⟩
theorem mE.full{l p:List Clue}(h:mE l p l.length):fC l p:=h.stop λx hx=>by
 have h1:=h.cnt;have h2:l.countP (opn p)=0:=by omega
 rw[List.countP_eq_zero]at h2;simpa using h2 x hx
end Kd
namespace Kd
open Canon
theorem O1{rs:List Clue}(h:rs.Pairwise λa b=>aV a b<0):rs.Nodup:=h.imp λ{a b} hab he=>by rw[he,nM]at hab;omega
theorem FK{α:Type}[DecidableEq α]:∀{a b:List α},a.Nodup->(∀x∈a,x∈b)->a.length<=b.length
 |[],_,_,_=>jl _
 |x::a,b,hn,h=>by
  obtain⟨h1,h2⟩:=pF.1 hn;have hx:=h x (bC ..);have:=FK (b:=b.erase x) h2 λy hy=>(List.mem_erase_of_ne (by rintro rfl;exact h1 hy)).2 (h y (aY _ hy));rw[List.length_erase_of_mem hx]at this;have:=List.length_pos_of_mem hx;rw[o8];omega
theorem AY{xs rs:List Clue}(h:fC xs rs):rs.length<=xs.length:=FK (O1 h.inc) h.sub
