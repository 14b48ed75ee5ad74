/-
  The reference's constraints of a puzzle.
-/
import Derived.Test.YtoohgkkmdnbnfaaGreatDoorLibUF
import Derived.Test.YtoohgkkmdnbnfaaGreatDoorLibXF
set_option linter.all false
set_option maxRecDepth 10000
set_option maxHeartbeats 4000000
namespace Go.Proofs.YtoohgkkmdnbnfaaGreatDoor
open Go.Ideal Kd Canon Gph
def ahc(c:kM):Prop:=c.cells.length<=1000000/\c.runs.length<=1000000
theorem ahd{p:List Clue}{vp:Value}{c a:Int}(hl:p.length<9223372036854775808):bz Tryz.prog (.func 32) [.agg ⟨[vp]⟩,.int .i64 c,.int .i64 a] [] [] [ah j6 vp p] (λn:Int=>.int .i64 n) (λ_=>[]) (λ_=>[])
 (λn=>(n= -1/\nH p c a=none)\/∃(j:Nat) (g:Clue),n=(j:Int)/\p[j]? =some g/\g.aG=c/\g.at_=a/\nH p c a=some g.values):=by
 refine aK _ (aP 32) λB w0=>?_;refine aV (E:=j6) (v:=vp) (xs:=p) (by simp) λap1 cp ep=>?_;subst ep;refine go ?_;intro b1;refine bC (eH (b:=b1)) (h:=?_);refine go ?_;refine bi (λj:Nat=>p.length - j) (λj=>[(7,.int .i64 (j:Int))]) (λ_=>[]) (λ_=>[]) (λj=>j<=p.length/\∀g∈p.take j,¬(g.aG=c/\g.at_=a)) 0 ⟨cB _,by simp⟩ (body:=?_);rintro j ⟨hj,hno⟩;refine go ?_;have hnext:∀g,p[j]? =some g->¬(g.aG=c/\g.at_=a)->∀x∈p.take (j+1),¬(x.aG=c/\x.at_=a):=λg hg hn x hx=>by
  rw[bX hg]at hx;rcases dX.1 hx with hx|hx
  ·exact hno x hx
  ·rw[bH.1 hx];exact hn
 refine az rfl (λh1=>?_) (λh1=>?_)
 ·refine go ?_;refine aZ j6 (xs:=p) (next:=λ_ _ g (vg:Value) hg=>?_);refine go ?_;first|with_reducible refine aL (λh2=>?_) (λh2=>?_)|with_reducible refine aO (λh2=>?_) (λh2=>?_)|with_reducible refine aM (λh2=>?_) (λh2=>?_)
  ·refine go ?_;exact aQ (j+1) (by show p.length - (j+1)<p.length - j;omega) ⟨by omega,hnext g hg λe=>h2 e.1⟩
  refine go ?_;refine aZ j6 (xs:=p) (next:=λ_ _ g' (vg:Value) hg'=>?_);cases hg.symm.trans hg';refine go ?_;refine az rfl (λh3=>?_) (λh3=>?_)
  rotate_left
  ·refine go ?_;exact aQ (j+1) (by show p.length - (j+1)<p.length - j;omega) ⟨by omega,hnext g hg λe=>h3 e.2⟩
  refine go ?_;refine ae (j:Int) (hv:=rfl) (hp:=.inr ⟨j,g,rfl,hg,h2,h3,?_⟩);unfold nH;have hjl:=(bN.1 hg).1;have e:p=p.take j++g::p.drop (j+1):=by
   conv=>lhs;rw[<- rT j p]
   rw[oQ hjl,(bN.1 hg).2]
  rw[e,List.find?_append,EY.2 (λx hx=>by rw[wO];exact hno x hx),List.find?_cons_of_pos (by exact dZ ⟨h2,h3⟩)];rfl
 have jr:j=p.length:=by omega
 subst jr;rw[bK]at hno;refine go ?_;refine ae (-1) (hv:=rfl) (hp:=.inl ⟨rfl,?_⟩);unfold nH;rw[EY.2 (λx hx=>by rw[wO];exact hno x hx)];rfl
structure aiE(r:aS)(cells vals:List Int):Prop where
 kd:1<=r.kind/\r.kind<=11
 one:r.kind=2\/r.kind=3->r.bW≠ko->vals.length=1
 giv:r.kind=11->vals.length=1/\∀x∈vals,0<=x/\x<16
 two:r.kind=6->cells.length=2
 z1:r.kind=1\/r.kind=4\/r.kind=6->r.set=0/\r.other=0/\r.n=0
 z7:r.kind=7->r.set=0/\r.other=0
 z8:r.kind=8->r.n=0
 z9:r.kind=9\/r.kind=10->r.other=0/\r.n=0
 len:cells.length<=1000000
theorem qA.n0{x:yf}{cs:List iP}{r:aS}(h:qA x cs r)(e:x.free=false)(e2:x.op=false):r.n=0:=by
 rcases h.cnt with h|h|h
 ·rw[e]at h;cases h
 ·rw[e2]at h;cases h.1
 ·exact h
theorem mk2{r:aS}{cells vals:List Int}(k:r.kind=2):jG r cells vals=⟨2,cells,r.set,0,(lW r vals cells.length).1,(lW r vals cells.length).2,[],0,0⟩:=if_pos k
