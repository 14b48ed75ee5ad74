/-
  The reference's constraints of a puzzle.
-/
import Derived.Test.YtoohgkkmdnbnfaaGreatDoorLibUD
import Derived.Test.YtoohgkkmdnbnfaaGreatDoorLibXD
set_option linter.all false
set_option maxRecDepth 10000
set_option maxHeartbeats 4000000
namespace Go.Proofs.YtoohgkkmdnbnfaaGreatDoor
open Go.Ideal Kd Canon Gph
theorem ahm{va vb:Value}{xs ys:List Int}(hl:xs.length<9223372036854775808):cK Tryz.prog 82 [va,vb] [ah aa va xs,ah aa vb ys] (.bool (decide (xs=ys))):=by
 refine aI _ (aO 82) λB w0=>?_;refine aS (E:=aa) (v:=va) (xs:=xs) (by simp) λa1 c1 e1=>?_;subst e1;refine aS (E:=aa) (v:=vb) (xs:=ys) (by simp) λa2 c2 e2=>?_;subst e2;refine go ?_;refine ay rfl (λh1=>?_) (λh1=>?_)
 ·refine go ?_;refine ae () (hv:=?_) (hp:=trivial);rw[aU (λe=>by subst e;omega)];rfl
 have hlen:xs.length=ys.length:=by omega
 refine go ?_;refine aZ (λk=>xs.length - k) (λk:Nat=>[(5,.int .i64 (k:Int))]) (λ_=>[]) (λ_=>[]) (λk=>k<=xs.length/\xs.take k=ys.take k) 0 ⟨by omega,by simp⟩ (body:=?_);rintro k ⟨hk,hsame⟩;refine go ?_;refine ay rfl (λh2=>?_) (λh2=>?_)
 ·refine go ?_;intro _ _ x hx _ _ y hy;refine go ?_;refine ay rfl (λh3=>?_) (λh3=>?_)
  rotate_left
  ·have h3:x=y:=iI.1 h3;refine go ?_;refine aP (k+1) (by omega) ⟨by omega,?_⟩;rw[bU hx,bU hy,hsame,h3]
  ·refine go ?_;refine ae () (hv:=?_) (hp:=trivial);rw[aU (λe=>by subst e;rw[hx]at hy;exact h3 (Option.some.inj hy))];rfl
 have:k=xs.length:=by omega
 subst this;refine go ?_;refine ae () (hv:=?_) (hp:=trivial);rw[bK,hlen,bK]at hsame;rw[dS hsame];rfl
theorem ahn{va vb:Value}{xs ys:List (List Int)}(hl:xs.length<9223372036854775808)(hll:∀l∈xs,l.length<9223372036854775808):cK Tryz.prog 51 [va,vb] [ah (aj aa) va xs,ah (aj aa) vb ys] (.bool (decide (xs=ys))):=by
 refine aI _ (aO 51) λB w0=>?_;refine aS (E:=aj aa) (v:=va) (xs:=xs) (by simp) λa1 c1 e1=>?_;subst e1;refine aS (E:=aj aa) (v:=vb) (xs:=ys) (by simp) λa2 c2 e2=>?_;subst e2;refine go ?_;refine ay rfl (λh1=>?_) (λh1=>?_)
 ·refine go ?_;refine ae () (hv:=?_) (hp:=trivial);rw[aU (λe=>by subst e;omega)];rfl
 have hlen:xs.length=ys.length:=by omega
 refine go ?_;refine aZ (λk=>xs.length - k) (λk:Nat=>[(5,.int .i64 (k:Int))]) (λ_=>[]) (λ_=>[]) (λk=>k<=xs.length/\xs.take k=ys.take k) 0 ⟨by omega,by simp⟩ (body:=?_);rintro k ⟨hk,hsame⟩;refine go ?_;refine ay rfl (λh2=>?_) (λh2=>?_)
 ·refine go ?_;refine bi (aj aa) (xs:=xs) (next:=λ_ _ x (_:Value) hx=>?_);refine go ?_;refine bi (aj aa) (xs:=ys) (next:=λ_ _ y (_:Value) hy=>?_);refine go ?_;refine ax (ahm (xs:=x) (ys:=y) (hll x (bH hx))) (next:=λ_ _=>?_);refine go ?_;refine eF rfl (λh3=>?_) (λh3=>?_)
  ·refine go ?_;refine ae () (hv:=?_) (hp:=trivial);rw[aU (λe=>by subst e;rw[hx]at hy;exact h3 (Option.some.inj hy))];rfl
  refine go ?_;refine aP (k+1) (by omega) ⟨by omega,?_⟩;rw[bU hx,bU hy,hsame,h3]
 have:k=xs.length:=by omega
 subst this;refine go ?_;refine ae () (hv:=?_) (hp:=trivial);rw[bK,hlen,bK]at hsame;rw[dS hsame];rfl
def Jk(c:jl):Prop:=c.cells.length<=1000000/\c.runs.length<=1000000
theorem aho{a b:jl}{v1 v2 u1 u2:Value}(ha:Jk a)(hb:Jk b):bn Tryz.prog (.func 31) [.agg ⟨I4 a v1 v2⟩,.agg ⟨I4 b u1 u2⟩] [] [] [ah aa v1 a.cells,ah aa v2 a.runs,ah aa u1 b.cells,ah aa u2 b.runs] (λb:Bool=>.bool b) (λ_=>[]) (λ_=>[]) (λr=>r=true↔a=b):=by
 obtain⟨a1,a2,a3,a4,a5,a6,a7,a8,a9⟩:=a;obtain⟨b1,b2,b3,b4,b5,b6,b7,b8,b9⟩:=b;obtain⟨ha1,ha2⟩:=ha;obtain⟨hb1,hb2⟩:=hb;dsimp only at ha1 ha2 hb1 hb2;have z1:=(xJ uw).zero a2 b2;have z2:=(xJ uw).zero a7 b7;dsimp only[I4];refine aI _ (aO 31) λB w0=>?_;refine go ?_;intro p2 p3;refine go ?_;refine ax (I5 (xs:=a2) (ys:=b2) ha1 hb1) (next:=λ_ _=>?_);refine go ?_;first|with_reducible refine aN (λh1=>?_) (λh1=>?_)|with_reducible refine aM (λh1=>?_) (λh1=>?_)|with_reducible refine aK (λh1=>?_) (λh1=>?_)
 ·refine go ?_;exact ae false (hv:=rfl) (hp:=⟨(λh=>by cases h),λh=>by exfalso;simp only[jl.mk.injEq]at h;exact h1 (z1.2 h.2.1)⟩)
 refine go ?_;refine ax (I5 (xs:=a7) (ys:=b7) ha2 hb2) (next:=λ_ _=>?_);refine go ?_;first|with_reducible refine aN (λh2=>?_) (λh2=>?_)|with_reducible refine aM (λh2=>?_) (λh2=>?_)|with_reducible refine aK (λh2=>?_) (λh2=>?_)
 ·refine go ?_;exact ae false (hv:=rfl) (hp:=⟨(λh=>by cases h),λh=>by exfalso;simp only[jl.mk.injEq]at h;exact h2 (z2.2 h.2.2.2.2.2.2.1)⟩)
 have y1:=z1.1 h1;have y2:=z2.1 h2;clear z1 z2 h1 h2;subst y1 y2;refine go ?_;first|with_reducible refine aN (λh1=>?_) (λh1=>?_)|with_reducible refine aM (λh1=>?_) (λh1=>?_)|with_reducible refine aK (λh1=>?_) (λh1=>?_)
 ·refine go ?_;exact ae false (hv:=rfl) (hp:=⟨(λh=>by cases h),λh=>by exfalso;simp only[jl.mk.injEq]at h;omega⟩)
 refine go ?_;first|with_reducible refine aN (λh2=>?_) (λh2=>?_)|with_reducible refine aM (λh2=>?_) (λh2=>?_)|with_reducible refine aK (λh2=>?_) (λh2=>?_)
 ·refine go ?_;exact ae false (hv:=rfl) (hp:=⟨(λh=>by cases h),λh=>by exfalso;simp only[jl.mk.injEq]at h;omega⟩)
 refine go ?_;first|with_reducible refine aN (λh3=>?_) (λh3=>?_)|with_reducible refine aM (λh3=>?_) (λh3=>?_)|with_reducible refine aK (λh3=>?_) (λh3=>?_)
 ·refine go ?_;exact ae false (hv:=rfl) (hp:=⟨(λh=>by cases h),λh=>by exfalso;simp only[jl.mk.injEq]at h;omega⟩)
 refine go ?_;first|with_reducible refine aN (λh4=>?_) (λh4=>?_)|with_reducible refine aM (λh4=>?_) (λh4=>?_)|with_reducible refine aK (λh4=>?_) (λh4=>?_)
 ·refine go ?_;exact ae false (hv:=rfl) (hp:=⟨(λh=>by cases h),λh=>by exfalso;simp only[jl.mk.injEq]at h;omega⟩)
 refine go ?_;first|with_reducible refine aN (λh5=>?_) (λh5=>?_)|with_reducible refine aM (λh5=>?_) (λh5=>?_)|with_reducible refine aK (λh5=>?_) (λh5=>?_)
 ·refine go ?_;exact ae false (hv:=rfl) (hp:=⟨(λh=>by cases h),λh=>by exfalso;simp only[jl.mk.injEq]at h;omega⟩)
 refine go ?_;first|with_reducible refine aN (λh6=>?_) (λh6=>?_)|with_reducible refine aM (λh6=>?_) (λh6=>?_)|with_reducible refine aK (λh6=>?_) (λh6=>?_)
 ·refine go ?_;exact ae false (hv:=rfl) (hp:=⟨(λh=>by cases h),λh=>by exfalso;simp only[jl.mk.injEq]at h;omega⟩)
 refine go ?_;refine ae (decide (a9=b9)) (hv:=rfl) (hp:=?_);rw[qg];subst h1 h2 h3 h4 h5 h6;exact⟨λh=>by rw[h],λh=>by simp only[jl.mk.injEq]at h;omega⟩
theorem Vn{q:zJ}{vv vn vc wv wn wc:Value}(h1:q.values.length<=1000000)(h2:q.bq.length<9223372036854775808)(h3:∀l∈q.bq,l.length<9223372036854775808)(h4:q.cons.length<9223372036854775808)(h5:∀c∈q.cons,Jk c):
 cK Tryz.prog 23 [.agg ⟨qJ q vv vn vc⟩,.agg ⟨qJ q wv wn wc⟩] [ah aa vv q.values,ah (aj aa) vn q.bq,ah jL vc q.cons,ah aa wv q.values,ah (aj aa) wn q.bq,ah jL wc q.cons] (.bool true):=by
 refine aI _ (aO 23) λB w0=>?_;refine aS (E:=jL) (v:=vc) (xs:=q.cons) (by simp) λac cc ec=>?_;subst ec;refine aS (E:=jL) (v:=wc) (xs:=q.cons) (by simp) λad cd ed=>?_;subst ed;refine go ?_;intro b2 b3;refine bA (eD (b:=b2)) (h:=?_);refine bA (eD (b:=b3)) (h:=?_);refine go ?_;first|with_reducible refine aN (λk1=>?_) (λk1=>?_)|with_reducible refine aM (λk1=>?_) (λk1=>?_)|with_reducible refine aK (λk1=>?_) (λk1=>?_)
 rotate_left
 ·exact absurd rfl k1
 refine go ?_;first|with_reducible refine aN (λk2=>?_) (λk2=>?_)|with_reducible refine aM (λk2=>?_) (λk2=>?_)|with_reducible refine aK (λk2=>?_) (λk2=>?_)
 rotate_left
 ·exact absurd rfl k2
 refine go ?_;refine ax (I5 (xs:=q.values) (ys:=q.values) h1 h1) (next:=λ_ _=>?_);rw[((xJ uw).zero q.values q.values).2 rfl];refine go ?_;refine ax (ahn (xs:=q.bq) (ys:=q.bq) h2 h3) (next:=λ_ _=>?_);rw[dS rfl];refine go ?_;refine ay rfl (λh=>absurd rfl h) (λh=>?_);refine go ?_;refine aZ (λk=>q.cons.length - k) (λk:Nat=>[(5,.int .i64 (k:Int))]) (λ_=>[]) (λ_=>[]) (λk=>k<=q.cons.length) 0 (bY _) (body:=?_);intro k hk;refine go ?_;refine ay rfl (λa1=>?_) (λa1=>?_)
 ·refine go ?_;refine bi jL (xs:=q.cons) (next:=λ_ _ x (vx:Value×Value) hx=>?_);refine go ?_;refine bi jL (xs:=q.cons) (next:=λ_ _ y (vy:Value×Value) hy=>?_);cases hx.symm.trans hy;have hs:=h5 x (bH hx);refine go ?_;refine ax (aho (a:=x) (b:=x) (v1:=vx.1) (v2:=vx.2) (u1:=vy.1) (u2:=vy.2) hs hs) (next:=λr hr=>?_);have hr:=hr.2 rfl;subst hr;refine go ?_;exact aP (k+1) (by show q.cons.length - (k+1)<q.cons.length - k;omega) (by show k+1<=_;omega)
 refine go ?_;exact ae () (hv:=rfl) (hp:=trivial)
theorem ahp{r:aQ}{v1 v2:Value}:cK Tryz.prog 49 [.agg ⟨iQ r v1 v2⟩] [] (.int .i64 (eY r)):=by
 refine aI _ (aO 49) λB w0=>?_;refine go ?_;intro b1;have e1:r.kind=6\/r.kind=7\/r.kind=8->eY r=6:=λh=>if_pos h;have e2:r.kind=9\/r.kind=10->eY r=7:=λh=>(if_neg (by omega)).trans (if_pos h);have e3:r.kind=11->eY r=0:=λh=>(if_neg (by omega)).trans ((if_neg (by omega)).trans (if_pos h));have e4:¬(6<=r.kind/\r.kind<=11)->eY r=r.family:=λh=>(if_neg (by omega)).trans ((if_neg (by omega)).trans (if_neg (by omega)));generalize eY r=f at e1 e2 e3 e4⊢;iterate 18 (all_goals (first
  |(exfalso;omega)
  |(refine ay rfl (λ_=>?_) (λ_=>?_))
  |(obtain rfl:f=6:=e1 (by omega);refine ae () (hv:=rfl) (hp:=trivial))
  |(obtain rfl:f=7:=e2 (by omega);refine ae () (hv:=rfl) (hp:=trivial))
  |(obtain rfl:f=0:=e3 (by omega);refine ae () (hv:=rfl) (hp:=trivial))
  |(obtain rfl:f=r.family:=e4 (by omega);refine ae () (hv:=rfl) (hp:=trivial))
  |(refine go ?_)))
theorem ahq{p:List Clue}{vp:Value}{c a:Int}(hl:p.length<9223372036854775808):bn Tryz.prog (.func 32) [.agg ⟨[vp]⟩,.int .i64 c,.int .i64 a] [] [] [ah iV vp p] (λn:Int=>.int .i64 n) (λ_=>[]) (λ_=>[])
 (λn=>(n= -1/\oO p c a=none)\/∃(j:Nat) (g:Clue),n=(j:Int)/\p[j]? =some g/\g.aH=c/\g.at_=a/\oO p c a=some g.values):=by
 refine aI _ (aO 32) λB w0=>?_;refine aS (E:=iV) (v:=vp) (xs:=p) (by simp) λEN cp ep=>?_;subst ep;refine go ?_;intro b1;refine bA (eD (b:=b1)) (h:=?_);refine go ?_;refine aZ (λj:Nat=>p.length - j) (λj=>[(7,.int .i64 (j:Int))]) (λ_=>[]) (λ_=>[]) (λj=>j<=p.length/\∀g∈p.take j,¬(g.aH=c/\g.at_=a)) 0 ⟨bY _,by simp⟩ (body:=?_);rintro j ⟨hj,hno⟩;refine go ?_;have hnext:∀g,p[j]? =some g->¬(g.aH=c/\g.at_=a)->∀x∈p.take (j+1),¬(x.aH=c/\x.at_=a):=λg hg hn x hx=>by
  rw[bU hg]at hx;rcases dZ.1 hx with hx|hx
  ·exact hno x hx
  ·rw[bI.1 hx];exact hn
 refine ay rfl (λh1=>?_) (λh1=>?_)
 ·refine go ?_;refine bi iV (xs:=p) (next:=λ_ _ g (vg:Value) hg=>?_);refine go ?_;first|with_reducible refine aN (λh2=>?_) (λh2=>?_)|with_reducible refine aM (λh2=>?_) (λh2=>?_)|with_reducible refine aK (λh2=>?_) (λh2=>?_)
  ·refine go ?_;exact aP (j+1) (by show p.length - (j+1)<p.length - j;omega) ⟨by omega,hnext g hg λe=>h2 e.1⟩
  refine go ?_;refine bi iV (xs:=p) (next:=λ_ _ g' (vg:Value) hg'=>?_);cases hg.symm.trans hg';refine go ?_;refine ay rfl (λh3=>?_) (λh3=>?_)
  rotate_left
  ·refine go ?_;exact aP (j+1) (by show p.length - (j+1)<p.length - j;omega) ⟨by omega,hnext g hg λe=>h3 e.2⟩
  refine go ?_;refine ae (j:Int) (hv:=rfl) (hp:=.inr ⟨j,g,rfl,hg,h2,h3,?_⟩);unfold oO;have hjl:=(bP.1 hg).1;have e:p=p.take j++g::p.drop (j+1):=by
   conv=>lhs;rw[<- r9 j p]
   rw[pg hjl,(bP.1 hg).2]
  rw[e,List.find?_append,Fp.2 (λx hx=>by rw[qg];exact hno x hx),List.find?_cons_of_pos (by exact dS ⟨h2,h3⟩)];rfl
 have ig:j=p.length:=by omega
 subst ig;rw[bK]at hno;refine go ?_;refine ae (-1) (hv:=rfl) (hp:=.inl ⟨rfl,?_⟩);unfold oO;rw[Fp.2 (λx hx=>by rw[qg];exact hno x hx)];rfl
theorem Vo{op n most:Int}:cK Tryz.prog 81 [.int .i64 op,.int .i64 n,.int .i64 most] [] (.tuple ⟨[.int .i64 (if op=2 then(0:Int)else n),.int .i64 (if op=2 then n else if op=3 then max n most else n)]⟩):=by
 refine aI _ (aO 81) λB w0=>?_;refine go ?_;refine ay rfl (λh1=>?_) (λh1=>?_)
 ·refine go ?_;refine ae () (hv:=?_) (hp:=trivial);rw[if_pos h1,if_pos h1];rfl
 refine go ?_;refine ay rfl (λh2=>?_) (λh2=>?_)
 ·refine go ?_;refine(fJ rfl rfl (Q0 rfl rfl)).h ?_;refine go ?_;refine ae () (hv:=?_) (hp:=trivial);rw[if_neg h1,if_neg h1,if_pos h2];rfl
 refine go ?_;refine ae () (hv:=?_) (hp:=trivial);rw[if_neg h1,if_neg h1,if_neg h2];rfl
structure tL(r:aQ)(cells vals:List Int):Prop where
 kd:1<=r.kind/\r.kind<=11
 one:r.kind=2\/r.kind=3->r.bW≠jS->vals.length=1
 EP:r.kind=11->vals.length=1/\∀x∈vals,0<=x/\x<16
 two:r.kind=6->cells.length=2
 z1:r.kind=1\/r.kind=4\/r.kind=6->r.set=0/\r.other=0/\r.n=0
 z7:r.kind=7->r.set=0/\r.other=0
 z8:r.kind=8->r.n=0
 z9:r.kind=9\/r.kind=10->r.other=0/\r.n=0
 len:cells.length<=1000000
theorem nQ.set0{x:uQ}{cs:List iR}{r:aQ}(h:nQ x cs r)(e:x.set=false):r.set=0:=Classical.byContradiction λhn=>by have:=h.set.2 hn;rw[e]at this;cases this
theorem nQ.Cr{x:uQ}{cs:List iR}{r:aQ}(h:nQ x cs r)(e:x.other=false):r.other=0:=Classical.byContradiction λhn=>by have:=h.other.2 hn;rw[e]at this;cases this
theorem nQ.n0{x:uQ}{cs:List iR}{r:aQ}(h:nQ x cs r)(e:x.free=false)(e2:x.op=false):r.n=0:=by
 rcases h.cnt with h|h|h
 ·rw[e]at h;cases h
 ·rw[e2]at h;cases h.1
 ·exact h
theorem RF.Vp{k:bS}{p:List Clue}{r:aQ}{ls:List (List Int)}(h:RF k r)(hK:fC k)(hQ:jR k p)(hls:k.lists[(eY r).toNat]? =some ls)(hs:k.decl.symbols.length<=16){y:Nat×List Int×List Int}(hy:y∈ja p r ls):tL r y.2.1 y.2.2:=by
 obtain⟨ls',e1,e2,e3,_⟩:=h.list hK;obtain rfl:ls=ls':=Option.some.inj (hls.symm.trans e1);have hm:y.2.1∈ls:=bH (Er.1 hy).1;have hv:=h.vals hQ hy;refine⟨h.kd,λhk hb=>?_,λhk=>?_,λhk=>?_,λhk=>?_,λhk=>?_,λhk=>?_,λhk=>?_,?_⟩
 ·rcases hv with a|⟨_,c,_,_,a|a|a⟩
  ·exact absurd (h.Va.2 a.1) hb
  ·omega
  ·exact a.2.2.1
  ·omega
 ·have hc:=h.Vb (.inr hk);rcases hv with a|⟨_,c,_,_,a|a|a⟩
  ·omega
  ·exact⟨a.2.2.1,λx hx=>by have:=a.2.2.2 x hx;omega⟩
  ·omega
  ·omega
 ·have e:=e3 (.inl hk);rw[e]at hm;obtain⟨i,x,j,_,_,_,e⟩:=Tm hm;rw[e];rfl
 ·rcases hk with e|e|e
  ·exact⟨h.x.set0 (by rw[e];rfl),h.x.Cr (by rw[e];rfl),h.x.n0 (by rw[e];rfl) (by rw[e];rfl)⟩
  ·exact⟨h.x.set0 (by rw[e];rfl),h.x.Cr (by rw[e];rfl),h.x.n0 (by rw[e];rfl) (by rw[e];rfl)⟩
  ·exact⟨h.x.set0 (by rw[e];rfl),h.x.Cr (by rw[e];rfl),h.x.n0 (by rw[e];rfl) (by rw[e];rfl)⟩
 ·exact⟨h.x.set0 (by rw[hk];rfl),h.x.Cr (by rw[hk];rfl)⟩
 ·exact h.x.n0 (by rw[hk];rfl) (by rw[hk];rfl)
 ·rcases hk with e|e
  ·exact⟨h.x.Cr (by rw[e];rfl),h.x.n0 (by rw[e];rfl) (by rw[e];rfl)⟩
  ·exact⟨h.x.Cr (by rw[e];rfl),h.x.n0 (by rw[e];rfl) (by rw[e];rfl)⟩
 ·have:=(e2 _ hm).1.1;omega
def nR(r:aQ)(vals:List Int):Int:=if r.bW≠jS/\vals.length=1 then vals.getD 0 0 else r.n
theorem tL.nR{r:aQ}{cells vals:List Int}(h:tL r cells vals)(hk:r.kind=2\/r.kind=3):nR r vals=tq r vals:=by
 unfold Proofs.YtoohgkkmdnbnfaaGreatDoor.nR tq;by_cases hb:r.bW=jS
 ·rw[if_neg (λe=>e.1 hb),if_pos hb]
 ·rw[if_pos ⟨hb,h.one hk hb⟩,if_neg hb]
theorem Vq(r:aQ)(vals:List Int)(n most:Int)(h:n=tq r vals):(if r.op=2 then(0:Int)else n)=(kw r vals most).1/\(if r.op=2 then n else if r.op=3 then max n most else n)=(kw r vals most).2:=by
 subst h;unfold kw;split
 ·exact⟨rfl,rfl⟩
 ·split<;>exact⟨rfl,rfl⟩
def kY(k:bS)(p:List Clue)(r:aQ)(i:Nat)(ls:List (List Int))(j:Nat):List jl:=j5 k p i++((ja p r (ls.take j)).filter λx=>decide (ic r<=x.2.1.length)).map (gV r i)
theorem ahr{k:bS}{p:List Clue}{r:aQ}{i:Nat}{ls:List (List Int)}:kY k p r i ls 0=j5 k p i:=by simp[kY,ja]
theorem ahs{k:bS}{p:List Clue}{r:aQ}{i:Nat}{ls:List (List Int)}(hr:k.decl.rules[i]? =some r)(hls:k.lists[(eY r).toNat]? =some ls):kY k p r i ls ls.length=j5 k p (i+1):=by
 rw[IA hr];unfold kY uI BM;rw[bK,uC hls]
theorem aht{k:bS}{p:List Clue}{r:aQ}{i:Nat}{ls:List (List Int)}{j:Nat}{l:List Int}(h:ls[j]? =some l)(hn:mM p r (l,j)=none):kY k p r i ls (j+1)=kY k p r i ls j:=by
 unfold kY;rw[Iy h,hn];simp
theorem Vr{k:bS}{p:List Clue}{r:aQ}{i:Nat}{ls:List (List Int)}{j:Nat}{l:List Int}{y:Nat×List Int×List Int}(h:ls[j]? =some l)(hy:mM p r (l,j)=some y)(hn:¬ic r<=y.2.1.length):kY k p r i ls (j+1)=kY k p r i ls j:=by
 unfold kY;rw[Iy h,hy,Option.toList_some,wV,VJ (by rw[qg];exact hn)];simp
theorem Vs{k:bS}{p:List Clue}{r:aQ}{i:Nat}{ls:List (List Int)}{j:Nat}{l:List Int}{y:Nat×List Int×List Int}(h:ls[j]? =some l)(hy:mM p r (l,j)=some y)(hn:ic r<=y.2.1.length):kY k p r i ls (j+1)=kY k p r i ls j++[gV r i y]:=by
 unfold kY;rw[Iy h,hy,Option.toList_some,wV,VI (by exact dS hn)];simp
theorem Vt{k:bS}{p:List Clue}{r:aQ}{i:Nat}{ls:List (List Int)}{j:Nat}(hl:∀l∈k.lists,l.length<=2048)(hi:i<=k.decl.rules.length)(hi2:i<=16)(h:ls.length<=2048):(kY k p r i ls j).length<=65536:=by
 have h1:=IC (p:=p) hl i hi;have h2:=Au (λx:Nat×List Int×List Int=>decide (ic r<=x.2.1.length)) (ja p r (ls.take j));have h3:=IB (p:=p) (r:=r) (ls:=ls.take j);rw[gW]at h3;unfold kY;rw[gH,cz];omega
theorem mk1{r:aQ}{cells vals:List Int}(h:tL r cells vals)(k:r.kind=1\/r.kind=6):gy r cells vals=⟨1,cells,0,0,0,0,[],0,0⟩:=by
 obtain⟨z1,z2,z3⟩:=h.z1 (by omega);unfold gy;rw[if_neg (by omega),if_neg (by omega),if_neg (by omega),if_neg (by omega),z1,z2,z3];rcases k with e|e<;>rw[e]<;>rfl
theorem mk2{r:aQ}{cells vals:List Int}(k:r.kind=2):gy r cells vals=⟨2,cells,r.set,0,(kw r vals cells.length).1,(kw r vals cells.length).2,[],0,0⟩:=if_pos k
theorem mk3{r:aQ}{cells vals:List Int}(k:r.kind=3):gy r cells vals=⟨3,cells,0,0,(kw r vals 65536).1,(kw r vals 65536).2,[],0,0⟩:=(if_neg (by omega)).trans (if_pos k)
theorem mk4{r:aQ}{cells vals:List Int}(h:tL r cells vals)(k:r.kind=4):gy r cells vals=⟨4,cells,0,0,0,0,[],0,0⟩:=by
 obtain⟨z1,z2,z3⟩:=h.z1 (by omega);unfold gy;rw[if_neg (by omega),if_neg (by omega),if_neg (by omega),if_neg (by omega),z1,z2,z3,k];rfl
theorem mk5{r:aQ}{cells vals:List Int}(k:r.kind=5):gy r cells vals=⟨5,cells,r.set,0,0,0,vals,0,0⟩:=(if_neg (by omega)).trans ((if_neg (by omega)).trans (if_pos k))
theorem mk7{r:aQ}{cells vals:List Int}(h:tL r cells vals)(k:r.kind=7):gy r cells vals=⟨6,cells,0,0,r.n,0,[],0,0⟩:=by
 obtain⟨z1,z2⟩:=h.z7 k;unfold gy;rw[if_neg (by omega),if_neg (by omega),if_neg (by omega),if_neg (by omega),z1,z2,k];rfl
theorem mk8{r:aQ}{cells vals:List Int}(h:tL r cells vals)(k:r.kind=8):gy r cells vals=⟨7,cells,r.set,r.other,0,0,[],0,0⟩:=by
 unfold gy;rw[if_neg (by omega),if_neg (by omega),if_neg (by omega),if_neg (by omega),h.z8 k,k];rfl
theorem mk9{r:aQ}{cells vals:List Int}(h:tL r cells vals)(k:r.kind=9):gy r cells vals=⟨8,cells,r.set,0,0,0,[],0,0⟩:=by
 obtain⟨z1,z2⟩:=h.z9 (.inl k);unfold gy;rw[if_neg (by omega),if_neg (by omega),if_neg (by omega),if_neg (by omega),z1,z2,k];rfl
theorem ahC{r:aQ}{cells vals:List Int}(h:tL r cells vals)(k:r.kind=10):gy r cells vals=⟨9,cells,r.set,0,0,0,[],0,0⟩:=by
 obtain⟨z1,z2⟩:=h.z9 (.inr k);unfold gy;rw[if_neg (by omega),if_neg (by omega),if_neg (by omega),if_neg (by omega),z1,z2,k];rfl
theorem ahD{r:aQ}{cells vals:List Int}(k:r.kind=11):gy r cells vals=⟨2,cells,((1<<<(vals.getD 0 0).toNat:Nat):Int),0,1,1,[],0,0⟩:=(if_neg (by omega)).trans ((if_neg (by omega)).trans ((if_neg (by omega)).trans (if_pos k)))
theorem lr2{r:aQ}{cells vals:List Int}(h:tL r cells vals)(k:r.kind=1\/r.kind=4\/r.kind=6):decide (ic r<=cells.length)=decide ((2:Int)<=(cells.length:Int)):=by
 have:=h.two;unfold ic;by_cases e:r.kind=6
 ·have:=h.two e;rw[if_neg (by omega),dS (by omega),dS (by omega)]
 ·rw[if_pos (by omega)];exact nU.2 (by omega)
theorem yK{r:aQ}{cells:List Int}(k:r.kind≠1/\r.kind≠4):decide (ic r<=cells.length)=true:=by
 unfold ic;rw[if_neg (by omega)];exact dS (bY _)
theorem NR{p:Prop}(h:p:=by
 iterate 40 (all_goals (first
  |(exfalso;omega)
  |(refine ay rfl (λ_=>?_) (λ_=>?_))
  |(obtain rfl:=hm.symm.trans (mk1 h (by omega));obtain rfl:=hl.symm.trans (lr2 h (by omega));refine ae (.slice none 0 0) (hv:=rfl) (hp:=trivial))
  |(obtain rfl:=hm.symm.trans (mk4 h (by omega));obtain rfl:=hl.symm.trans (lr2 h (by omega));refine ae (.slice none 0 0) (hv:=rfl) (hp:=trivial))
  |(have k2:r.kind=2:=(by omega);refine ax Vo (next:=λ_ _=>?_);obtain⟨q1,q2⟩:=Vq r vals _ (cells.length:Int) (h9.trans (h.nR (.inl k2)));rw[q1,q2];obtain rfl:=hm.symm.trans (mk2 k2);obtain rfl:=hl.symm.trans (yK (by omega));refine go ?_;refine ae (.slice none 0 0) (hv:=rfl) (hp:=trivial))
  |(have k3:r.kind=3:=(by omega);refine ax Vo (next:=λ_ _=>?_);obtain⟨q1,q2⟩:=Vq r vals _ (65536:Int) (h9.trans (h.nR (.inr k3)));rw[q1,q2];obtain rfl:=hm.symm.trans (mk3 k3);obtain rfl:=hl.symm.trans (yK (by omega));refine go ?_;refine ae (.slice none 0 0) (hv:=rfl) (hp:=trivial))
  |(have k5:r.kind=5:=(by omega);obtain rfl:=hm.symm.trans (mk5 k5);obtain rfl:=hl.symm.trans (yK (by omega));refine ae (.slice av vals.length cv) (hv:=rfl) (hp:=trivial))
  |(obtain rfl:=hm.symm.trans (mk7 h (by omega));obtain rfl:=hl.symm.trans (yK (by omega));refine ae (.slice none 0 0) (hv:=rfl) (hp:=trivial))
  |(obtain rfl:=hm.symm.trans (mk8 h (by omega));obtain rfl:=hl.symm.trans (yK (by omega));refine ae (.slice none 0 0) (hv:=rfl) (hp:=trivial))
  |(obtain rfl:=hm.symm.trans (mk9 h (by omega));obtain rfl:=hl.symm.trans (yK (by omega));refine ae (.slice none 0 0) (hv:=rfl) (hp:=trivial))
  |(obtain rfl:=hm.symm.trans (ahC h (by omega));obtain rfl:=hl.symm.trans (yK (by omega));refine ae (.slice none 0 0) (hv:=rfl) (hp:=trivial))
  |(intro _ _ x hx)
  |(obtain⟨n,rfl⟩:=qf (h.EP (by omega)|>.2 x (bH hx)).1;have hlt:(1:Nat)<<<n<9223372036854775808:=(by have:=(h.EP (by omega)).2 _ (bH hx);rw[Nat.one_shiftLeft];exact kR (Fv (by omega) (show n<16 by omega)) (by decide));refine Q4 (Hl (a:=1) (b:=n) rfl rfl (by have:=(h.EP (by omega)).2 _ (bH hx);omega) hlt) ?_;refine go ?_;obtain rfl:=hm.symm.trans (ahD (by omega));obtain rfl:=hl.symm.trans (yK (by omega));rw[I6 hx,Am];refine ae (.slice none 0 0) (hv:=rfl) (hp:=trivial))
  |(refine go ?_)))):p:=h
set_option maxHeartbeats 8000000 in
theorem Vu{r:aQ}{cells vals:List Int}{v1 v2 vc vv:Value}(h:tL r cells vals):bn Tryz.prog (.func 50) [.agg ⟨iQ r v1 v2⟩,vc,vv] [] [] [ah aa vc cells,ah aa vv vals] (λvr:Value=>.tuple ⟨[.agg ⟨I4 (gy r cells vals) vc vr⟩,.bool (decide (ic r<=cells.length))]⟩) (λ_=>[]) (λvr=>[ah aa vr (gy r cells vals).runs]) (λ_=>True):=by
 have hkd:=h.kd;have hlen:=h.len;have h11:r.kind=11->vals.length=1:=λk=>(h.EP k).1;generalize hm:gy r cells vals=m;generalize hl:decide (ic r<=cells.length)=lb;refine aI _ (aO 50) λB w0=>?_;refine aS (E:=aa) (v:=vc) (xs:=cells) (by simp) λac cc ec=>?_;subst ec;refine aS (E:=aa) (v:=vv) (xs:=vals) (by simp) λav cv wJ=>?_;subst wJ;refine ET (ah aa (.slice none 0 0) []) EX ?_;refine go ?_;intro b3 b6 b8;refine go ?_;rw[dW];first|with_reducible refine aN (λh1=>?_) (λh1=>?_)|with_reducible refine aM (λh1=>?_) (λh1=>?_)|with_reducible refine aK (λh1=>?_) (λh1=>?_)
 ·have h9:r.n=Proofs.YtoohgkkmdnbnfaaGreatDoor.nR r vals:=(if_neg (λe=>e.1 h1)).symm;refine go ?_;exact NR
 refine go ?_;refine ay rfl (λh2=>?_) (λh2=>?_)
 ·refine go ?_;intro _ _ x0 hx0;have h9:x0=Proofs.YtoohgkkmdnbnfaaGreatDoor.nR r vals:=by unfold Proofs.YtoohgkkmdnbnfaaGreatDoor.nR;rw[if_pos ⟨h1,by omega⟩,I6 hx0]
  refine go ?_;exact NR
 ·have h9:r.n=Proofs.YtoohgkkmdnbnfaaGreatDoor.nR r vals:=(if_neg (λe=>h2 (by omega))).symm;refine go ?_;exact NR
theorem ahE{k:bS}{r:aQ}(hf:RF k r)(hK:fC k):0<=eY r/\eY r<k.lists.length:=by
 obtain⟨ls,h,_⟩:=hf.list hK;have h1:=(bP.1 h).1;have h0:=hf.f0;have:0<=eY r:=by
  unfold eY;repeat' split
  all_goals omega
 omega
set_option maxRecDepth 100000 in
theorem Vv{k:bS}{p:List Clue}{vh vs vr vc vu gh gc vn vl vp:Value}(hS:nu k)(hP:yF p):
 bn Tryz.prog (.func 22) [.agg ⟨kD k vh vs vr vc vu gh gc vn vl⟩,.agg ⟨[vp]⟩] [] [] (ah iV vp p::kX k vh vs vr vc vu gh gc vn vl []) (Co k p vn) (λ_=>[]) (Cq k p) (EY k p):=by
 refine aI _ (aO 22) λB w0=>?_;refine aS (E:=fq) (v:=vs) (xs:=k.decl.symbols) (by simp) λkC cs1 es1=>?_;subst es1;refine aS (E:=aY) (v:=vu) (xs:=k.decl.rules) (by simp) λau cu eu=>?_;subst eu;refine aS (E:=aa) (v:=gc) (xs:=k.grid.cells) (by simp) λag cg eg=>?_;subst eg;refine aS (E:=aj aa) (v:=vn) (xs:=k.bq) (by simp) λan cn en=>?_;subst en;refine aS (E:=iV) (v:=vp) (xs:=p) (by simp) λEN cp ep=>?_;subst ep;have hPl:=hP.len;refine go ?_;intro b2 b3 b4;refine go ?_;refine ax (ag2 (k:=k) (p:=p) (vh:=vh) (vs:=.slice kC k.decl.symbols.length cs1) (vr:=vr) (vc:=vc) (vu:=.slice au k.decl.rules.length cu) (gh:=gh) (gc:=.slice ag k.grid.cells.length cg) (vn:=.slice an k.bq.length cn) (vl:=vl) (vp:=.slice EN p.length cp) hS hP) (next:=λe he=>?_);refine go ?_;refine ay rfl (λh1=>?_) (λh1=>?_)
 ·have EZ:fC k->jR k p->False:=λa b=>h1 (he.2.2 a b);refine go ?_;exact ae ⟨false,e,.slice none 0 0,.slice none 0 0⟩ (hv:=rfl) (hp:=⟨he.1,he.2.1,λa b=>(EZ a b).elim,λa b=>(EZ a b).elim,⟨λh=>(by cases h),λh=>absurd h h1⟩⟩)
 have hz:e=0:=iI.1 h1;subst hz;have hK:fC k:=Classical.byContradiction λh=>by have:=he.1 h;omega
 have hQ:jR k p:=Classical.byContradiction λh=>by have:=he.2.1 hK h;omega
 have hsl:=hK.typ.lim.s1;have hrl:=hK.typ.lim.u;have hlf:∀l∈k.lists,l.length<=2048:=by rw[hK.lists];exact Tn hK.bX (λr hr=>(hK.typ.Ab r hr).1.2)
 refine go ?_;intro b7;refine go ?_;refine fZ aa ?_;refine aZ (λy:Nat×Value=>k.decl.symbols.length - y.1) (λy=>[(8,.int .i64 (y.1:Int))]) (λy=>[pt b7 (.cells [.int .i64 (k.grid.cells.length:Int),.int .i64 (k.decl.symbols.length:Int),y.2,.slice an k.bq.length cn,.slice none 0 0]),ap aa y.2 ((k.decl.symbols.take y.1).map (·.value))]) (λ_=>[]) (λy=>y.1<=k.decl.symbols.length) (0,.slice none 0 0) (bY _) (hk:=by repeat (first|exact aG.nil|(apply aG.cons;(focus (repeat (first|exact az.here|apply az.there)))))) (body:=?_);rintro⟨j,vv⟩ hj;dsimp only at hj⊢;have hjl:((k.decl.symbols.take j).map (·.value)).length=j:=by rw[cz,gW];omega
 refine go ?_;refine ay rfl (λh2=>?_) (λh2=>?_)
 ·refine go ?_;refine bi fq (xs:=k.decl.symbols) (next:=λ_ _ s (_:Unit) hs=>?_);have htk:(k.decl.symbols.take (j+1)).map (·.value)=(k.decl.symbols.take j).map (·.value)++[s.value]:=by rw[bU hs,eB,nV]
  refine go ?_;intro b50;refine go ?_;refine eO (xs:=(k.decl.symbols.take j).map (·.value)) aa s.value () (by omega) (next:=λad=>?_);rw[<- htk];refine go ?_;exact aP (j+1,.slice ad (((k.decl.symbols.take j).map (·.value)).length+1) (((k.decl.symbols.take j).map (·.value)).length+1)) (by show k.decl.symbols.length - (j+1)<k.decl.symbols.length - j;omega) (by show j+1<=_;omega)
 have ig:j=k.decl.symbols.length:=by omega
 subst ig;rw[bK,show k.decl.symbols.map (·.value)=uR k from rfl];refine bA (fV (E:=aa) (v:=vv) (xs:=uR k)) (h:=?_);refine go ?_;refine fZ jL ?_;refine aZ (λy:Nat×Value=>k.decl.rules.length - y.1) (λy=>[(9,.int .i64 (y.1:Int))]) (λy=>[pt b7 (.cells [.int .i64 (k.grid.cells.length:Int),.int .i64 (k.decl.symbols.length:Int),vv,.slice an k.bq.length cn,y.2]),ap jL y.2 (j5 k p y.1)]) (λ_=>[]) (λy=>y.1<=k.decl.rules.length) (0,.slice none 0 0) (bY _) (hk:=by repeat (first|exact aG.nil|(apply aG.cons;(focus (repeat (first|exact az.here|apply az.there)))))) (body:=?_);rintro⟨i,wH⟩ hi;dsimp only at hi⊢;refine go ?_;refine ay rfl (λh3=>?_) (λh3=>?_)
 ·refine go ?_;refine bi aY (xs:=k.decl.rules) (next:=λ_ _ r (w:Value×Value) hr=>?_);have hf:=hK.rf (bH hr);obtain⟨ls,hls,_⟩:=hf.list hK;have Vw:=hlf _ (bH hls);obtain⟨hf0,_⟩:=ahE hf hK;obtain⟨fi,hfi⟩:=qf hf0;have ahG:k.lists[fi]? =some ls:=by rw[hfi]at hls;exact hls
  refine go ?_;intro b10;refine go ?_;refine ax (ahp (r:=r) (v1:=w.1) (v2:=w.2)) (next:=λ_ _=>?_);rw[hfi];refine go ?_;refine bi (aj (aj aa)) (xs:=k.lists) (next:=λ_ _ ls' (Nu:Value) ahH=>?_);cases ahG.symm.trans ahH;refine go ?_;refine aZ (λy:Nat×Value=>ls.length - y.1) (λy=>[(12,.int .i64 (y.1:Int))]) (λy=>[pt b7 (.cells [.int .i64 (k.grid.cells.length:Int),.int .i64 (k.decl.symbols.length:Int),vv,.slice an k.bq.length cn,y.2]),ap jL y.2 (kY k p r i ls y.1)]) (λ_=>[]) (λy=>y.1<=ls.length) (0,wH) (bY _) (hk:=by rw[ahr];repeat (first|exact aG.nil|(apply aG.cons;(focus (repeat (first|exact az.here|apply az.there)))))) (body:=?_);rintro⟨j,Jl⟩ hj;dsimp only at hj⊢;refine go ?_;refine ay rfl (λh4=>?_) (λh4=>?_)
  ·refine go ?_;intro bz;refine bA (A:=pt bz (.cells [])) (fs:=[ah aa (.slice (some ⟨bz,0,some 0⟩) 0 0) []]) (zu (b:=bz) (f:=0) (c:=0) (xs:=[])) (h:=?_);refine go ?_;refine ay rfl (λhc=>?_) (λhc=>?_)
   ·refine go ?_;refine ax (ahq (p:=p) (c:=r.aH) (a:=(j:Int)) (vp:=.slice EN p.length cp) hPl) (next:=λn hn=>?_);refine go ?_;rcases hn with⟨rfl,hn⟩|⟨jj,g,rfl,hg,_,_,hn⟩
    ·refine ay rfl (λh5=>?_) (λh5=>?_)
     ·obtain⟨l,hl⟩:∃l,ls[j]? =some l:=⟨_,cO (by omega)⟩
      have hnl:mM p r (l,j)=none:=by unfold mM;rw[if_neg (by omega)];show Option.map _ (oO p r.aH (j:Int))=none;rw[hn];rfl
      rw[<- aht hl hnl];refine go ?_;exact aP (j+1,Jl) (by show ls.length - (j+1)<ls.length - j;omega) (by show j+1<=_;omega)
     ·omega
    ·have hjj:=(bP.1 hg).1;refine ay rfl (λh5=>?_) (λh5=>?_)
     ·omega
     refine go ?_;refine bi iV (xs:=p) (next:=λ_ _ g' (vg:Value) hg'=>?_);cases hg.symm.trans hg';refine go ?_;refine bi (aj aa) (xs:=ls) (next:=λ_ _ cells (NS:Value) hcl=>?_);have hy:mM p r (cells,j)=some (j,cells,g.values):=by unfold mM;rw[if_neg (by omega)];show Option.map _ (oO p r.aH (j:Int))=_;rw[hn];rfl
     have hym:(j,cells,g.values)∈ja p r ls:=Er.2 ⟨hcl,.inr ⟨by omega,hn⟩⟩;have hpre:=hf.Vp hK hQ hls hsl hym;have hml:=Vt (p:=p) (r:=r) (i:=i) (ls:=ls) (j:=j) hlf (by omega) (by omega) Vw;refine aS (E:=aa) (v:=NS) (xs:=cells) (by simp) λak ck ek=>?_;subst ek;refine go ?_;intro b15;refine go ?_;refine ax (Vu (r:=r) (cells:=cells) (vals:=g.values) (v1:=w.1) (v2:=w.2) (vc:=.slice ak cells.length ck) (vv:=vg) hpre) (next:=λvq _=>?_);refine go ?_;refine eF rfl (λh6=>?_) (λh6=>?_)
     ·rw[<- Vr hcl hy h6];refine go ?_;exact aP (j+1,Jl) (by show ls.length - (j+1)<ls.length - j;omega) (by show j+1<=_;omega)
     refine go ?_;intro ahI;have hcc:(gV r i (j,cells,g.values)).cells=cells:=by unfold gV gy;dsimp only;(repeat' split)<;>rfl
     refine eT (ah aa (.slice ak cells.length ck) (gV r i (j,cells,g.values)).cells) (λw hw=>by rw[hcc];exact hw (ah aa (.slice ak cells.length ck) cells) (by simp)) ?_;refine eT (ah aa vq (gV r i (j,cells,g.values)).runs) (λw hw=>hw (ah aa vq (gy r cells (g.values)).runs) (by simp)) ?_;refine eO (xs:=kY k p r i ls j) jL (gV r i (j,cells,g.values)) (.slice ak cells.length ck,vq) (by omega) (next:=λad=>?_);rw[<- Vs hcl hy h6];refine go ?_;exact aP (j+1,.slice ad ((kY k p r i ls j).length+1) ((kY k p r i ls j).length+1)) (by show ls.length - (j+1)<ls.length - j;omega) (by show j+1<=_;omega)
   ·refine go ?_;refine bi (aj aa) (xs:=ls) (next:=λ_ _ cells (NS:Value) hcl=>?_);have hy:mM p r (cells,j)=some (j,cells,[]):=by unfold mM;rw[if_pos (by omega)]
    have hym:(j,cells,[])∈ja p r ls:=Er.2 ⟨hcl,.inl ⟨by omega,rfl⟩⟩;have hpre:=hf.Vp hK hQ hls hsl hym;have hml:=Vt (p:=p) (r:=r) (i:=i) (ls:=ls) (j:=j) hlf (by omega) (by omega) Vw;refine aS (E:=aa) (v:=NS) (xs:=cells) (by simp) λak ck ek=>?_;subst ek;refine go ?_;intro b15;refine go ?_;refine ax (Vu (r:=r) (cells:=cells) (vals:=[]) (v1:=w.1) (v2:=w.2) (vc:=.slice ak cells.length ck) (vv:=.slice (some ⟨bz,0,some 0⟩) 0 0) hpre) (next:=λvq _=>?_);refine go ?_;refine eF rfl (λh6=>?_) (λh6=>?_)
    ·rw[<- Vr hcl hy h6];refine go ?_;exact aP (j+1,Jl) (by show ls.length - (j+1)<ls.length - j;omega) (by show j+1<=_;omega)
    refine go ?_;intro ahI;have hcc:(gV r i (j,cells,[])).cells=cells:=by unfold gV gy;dsimp only;(repeat' split)<;>rfl
    refine eT (ah aa (.slice ak cells.length ck) (gV r i (j,cells,[])).cells) (λw hw=>by rw[hcc];exact hw (ah aa (.slice ak cells.length ck) cells) (by simp)) ?_;refine eT (ah aa vq (gV r i (j,cells,[])).runs) (λw hw=>hw (ah aa vq (gy r cells ([])).runs) (by simp)) ?_;refine eO (xs:=kY k p r i ls j) jL (gV r i (j,cells,[])) (.slice ak cells.length ck,vq) (by omega) (next:=λad=>?_);rw[<- Vs hcl hy h6];refine go ?_;exact aP (j+1,.slice ad ((kY k p r i ls j).length+1) ((kY k p r i ls j).length+1)) (by show ls.length - (j+1)<ls.length - j;omega) (by show j+1<=_;omega)
  have ig:j=ls.length:=by omega
  subst ig;rw[ahs hr hls];refine go ?_;exact aP (i+1,Jl) (by show k.decl.rules.length - (i+1)<k.decl.rules.length - i;omega) (by show i+1<=_;omega)
 have ig:i=k.decl.rules.length:=by omega
 subst ig;have hcl:=IC (p:=p) hlf _ (bQ _);rw[Tp]at hcl⊢;refine go ?_;refine ay rfl (λh4=>?_) (λh4=>?_)
 ·have hno:¬(mO k p).length<=4096:=by omega
  refine go ?_;exact ae ⟨false,2,.slice none 0 0,.slice none 0 0⟩ (hv:=rfl) (hp:=⟨λh=>absurd hK h,λ_ h=>absurd hQ h,λ_ _ _=>rfl,λ_ _ h=>absurd h hno,⟨λh=>(by cases h),λh=>(by cases h)⟩⟩)
 have NQ:¬4096<(mO k p).length:=by omega
 refine bA (fV (E:=jL) (v:=wH) (xs:=mO k p)) (h:=?_);refine go ?_;exact ae ⟨true,0,vv,wH⟩ (hv:=rfl) (hp:=⟨λh=>absurd hK h,λ_ h=>absurd hQ h,λ_ _ h=>absurd h NQ,λ_ _ _=>rfl,⟨λ_=>rfl,λ_=>rfl⟩⟩)
