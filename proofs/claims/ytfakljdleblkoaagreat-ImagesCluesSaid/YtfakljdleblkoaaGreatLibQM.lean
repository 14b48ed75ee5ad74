/-
  Images of grids and puzzles, walked.
-/
import Derived.Test.YtfakljdleblkoaaGreatLibPM
import Derived.Test.YtfakljdleblkoaaGreatLibLM
set_option linter.all false
set_option maxRecDepth 10000
set_option maxHeartbeats 4000000
namespace Go.Proofs.YtfakljdleblkoaaGreat
open Go.Ideal Kd Canon
noncomputable def Zg:=qJ Tryz.prog 68
theorem alE:lT Tryz.prog 68=some Zg:=by kernel_rfl
noncomputable def Zh:=qJ Tryz.prog 23
theorem alF:lT Tryz.prog 23=some Zh:=by kernel_rfl
structure alG(k:aU)(s t grid:List Int)(e:Int):Prop where
 nk:¬bF k->e=180
 ns:bF k->¬gB k s t->e=230
 nf:bF k->gB k s t->¬jf k grid->e=200
 ok:bF k->gB k s t->jf k grid->e=0
theorem jf.kH{k:aU}{s t grid:List Int}(hk:gB k s t)(hF:jf k grid):iq k.grid.cells.length k.decl.symbols.length s t grid (gQ s t grid):=by
 obtain⟨h1,h2⟩:=hF;exact akU hk.pc hk.ps (by omega) λx hx=>by have:=h2 x hx;omega
theorem yL{k:aU}{s t grid:List Int}{vh vs vr vc vu gh gc vn vl sc st vg:Value}(hS:mR k)(hs:s.length<9223372036854775808)(ht:t.length<9223372036854775808)(hl:grid.length<9223372036854775808):
 aQ Tryz.prog (.func 21) [.agg ⟨kG k vh vs vr vc vu gh gc vn vl⟩,.agg ⟨[sc,st]⟩,vg] [] [] (ah ae vg grid::ah ae sc s::ah ae st t::je k vh vs vr vc vu gh gc vn vl []) DW (λ_=>[])
  (λy=>[iT (y.e=0) (ah ae y.v (gQ s t grid))]) (λy=>alG k s t grid y.e/\(y.e≠0->y.v=.slice none 0 0)):=by
 refine aK _ (aM 21) λB w0=>?_;dsimp only[je];refine bY (E:=ae) (v:=sc) (xs:=s) (by simp) λQO QR esc=>?_;subst esc;refine bY (E:=ae) (v:=st) (xs:=t) (by simp) λQV cst est=>?_;subst est;refine bY (E:=ae) (v:=vg) (xs:=grid) (by simp) λag cg eg=>?_;subst eg;refine go ?_;intro b3 b4;refine aZ (dH (b:=b4)) (h:=?_);refine go ?_;refine ak (Eg (k:=k) (s:=s) (t:=t) (vh:=vh) (vs:=vs) (vr:=vr) (vc:=vc) (vu:=vu) (gh:=gh) (gc:=gc) (vn:=vn) (vl:=vl) hS hs ht) (next:=λe he=>?_);refine go ?_;refine aJ rfl (λhne=>?_) (λhz=>?_)
 ·refine go ?_;refine nZ (c:=e=0) (f:=ah ae (.slice none 0 0) (gQ s t grid)) hne ?_;exact aj ⟨.slice none 0 0,e⟩ (hv:=rfl) (hp:=⟨⟨he.nk,he.ns,λa b _=>absurd (he.ok a b) hne,λa b _=>absurd (he.ok a b) hne⟩,λ_=>rfl⟩)
 have hz:e=0:=jo.1 hz;subst hz;have hK:bF k:=Classical.byContradiction λh=>by have:=he.nk h;omega
 have hk:gB k s t:=Classical.byContradiction λh=>by have:=he.ns hK h;omega
 refine go ?_;refine ak (Yn (k:=k) (grid:=grid) (vh:=vh) (vs:=vs) (vr:=vr) (vc:=vc) (vu:=vu) (gh:=gh) (gc:=gc) (vn:=vn) (vl:=vl) hS hl) (next:=λe he=>?_);refine go ?_;refine aJ rfl (λhne=>?_) (λhz=>?_)
 ·refine go ?_;refine nZ (c:=e=0) (f:=ah ae (.slice none 0 0) (gQ s t grid)) hne ?_;exact aj ⟨.slice none 0 0,e⟩ (hv:=rfl) (hp:=⟨⟨λh=>absurd hK h,λ_ h=>absurd hk h,λa _ b=>he.2.1 a b,λa _ b=>absurd (he.2.2 a b) hne⟩,λ_=>rfl⟩)
 have hz:e=0:=jo.1 hz;subst hz;have hF:jf k grid:=Classical.byContradiction λh=>by have:=he.2.1 hK h;omega
 clear he;have hG:=jf.kH hk hF;have hgl:=hG.len;have hsl:=hk.pc.len;have htl:=hk.ps.len;have hn:=hK.pO;refine go ?_;refine xN grid.length ⟨by omega,by omega,by omega⟩ λbm=>?_;rw[Lb];refine go ?_;refine bQ (λy:Nat×List Int=>grid.length - y.1) (λy=>[(27,.int .i64 (y.1:Int))]) (λy=>[pt bm (.cells (y.2.map (.int .i64)))]) (λ_=>[]) (λy=>y.1<=grid.length/\y.2.length=grid.length/\∀c:Int,0<=c->c<(y.1:Int)->aP y.2 (aP s c)=aP t (aP grid c)) (0,og [] grid.length) ⟨dK _,La (dK _),λc c0 c1=>by have c1:c<(0:Nat):=c1;omega⟩ (hk:=by repeat (first|exact aO.nil|(apply aO.cons;(focus (repeat (first|exact az.here|apply az.there)))))) (body:=?_);rintro⟨j,ys⟩ ⟨hj,hyl,hy⟩;dsimp only at hj hyl hy⊢;refine go ?_;refine aJ rfl (λh1=>?_) (λh1=>?_)
 ·refine go ?_;intro _ _ x hx;have nY:=hG.iJ x (aR hx);have hxg:=jJ hx;obtain⟨xn,rfl⟩:=eO nY.1;refine go ?_;intro _ _ d hd;have hdr:=hk.pc.dZ d (aR hd);have hdg:=jJ hd;obtain⟨dn,rfl⟩:=eO hdr.1;refine go ?_;intro _ _ z hz;have hzg:=jJ hz;refine go ?_;refine mD (b:=bm) (o:=0+dn*1) (cs:=ys.map (.int .i64)) (v:=.int .i64 z) (cs':=(ys.set dn z).map (.int .i64)) (by rw[fw,pV,Ao]) (by rw[bJ];omega) ?_;refine go ?_;refine bi (j+1,ys.set dn z) (by show grid.length - (j+1)<grid.length - j;omega) ⟨by dsimp only;omega,by rw[nM];exact hyl,λc c0 c1=>?_⟩;dsimp only at c1⊢;have hsr:=hk.pc.at_ c0 (by omega);have hset:=Xb (l:=ys) (s:=(dn:Int)) (x:=z) (u:=aP s c) (by omega) (by omega) hsr.1;rw[eX]at hset;rw[hset];by_cases e:c=(j:Int)
  ·subst e;rw[hdg,if_pos rfl,hxg,hzg]
  ·rw[if_neg (λq=>e (hk.pc.inj c0 (by omega) (by omega) (by omega) (q.trans hdg.symm)))];exact hy c c0 (by omega)
 have iM:j=grid.length:=by omega
 subst iM;have hfin:ys=gQ s t grid:=by
  have:iq k.grid.cells.length k.decl.symbols.length s t grid ys:=⟨hk.pc,hk.ps,hgl,by omega,hG.iJ,λc c0 c1=>hy c c0 (by omega)⟩
  exact this.uniq hG
 subst hfin;refine aZ (A:=pt bm (.cells ((gQ s t grid).map (.int .i64)))) (fs:=[ah ae (.slice (some ⟨bm,0,some 0⟩) grid.length grid.length) (gQ s t grid)]) (by have:=uX (b:=bm) (f:=0) (c:=grid.length) (xs:=gQ s t grid) (hc:=by rw[hyl];exact bB _);rw[hyl]at this;exact this) (h:=?_);refine go ?_;refine qy (c:=(0:Int)=0) (f:=ah ae (.slice (some ⟨bm,0,some 0⟩) grid.length grid.length) (gQ s t grid)) (by simp) ?_;exact aj ⟨.slice (some ⟨bm,0,some 0⟩) grid.length grid.length,0⟩ (hv:=rfl) (hp:=⟨⟨λh=>absurd hK h,λ_ h=>absurd hk h,λ_ _ h=>absurd hF h,λ_ _ _=>rfl⟩,λh=>absurd rfl h⟩)
def gF(k:aU)(s:List Int)(g:Clue):Clue×Bool:=
 match k.decl.bI[g.aN.toNat]? with
 |none=>(g,false)
 |some c=>(⟨g.aN,gW (k.lists.getD c.family.toNat []) s c.family g.at_,g.values⟩,gD s ((k.lists.getD c.family.toNat []).getD g.at_.toNat []) ((k.lists.getD c.family.toNat []).getD (gW (k.lists.getD c.family.toNat []) s c.family g.at_).toNat []))
def l9(k:aU)(t:List Int)(x:Clue×Bool):Clue:=
 match k.decl.bI[x.1.aN.toNat]? with
 |none=>x.1
 |some c=>⟨x.1.aN,x.1.at_,if c.type=1 then img t x.1.values else if c.type=3/\x.2=true then x.1.values.reverse else x.1.values⟩
theorem alI(k:aU)(s t:List Int)(g:Clue):l9 k t (gF k s g)=gV k s t g:=by
 unfold gF gV;cases h:k.decl.bI[g.aN.toNat]? with
 |none=>
  dsimp only;unfold l9;rw[h]
 |some c=>
  dsimp only;unfold l9;dsimp only;rw[h];rfl
theorem Ea.gF{k:aU}{s t:List Int}{g:Clue}{c:iI}{L:List (List Int)}{j i:Nat}{l l':List Int}(G:Ea k s t g c L j i l l'):gF k s g=(⟨g.aN,(i:Int),g.values⟩,gD s l l'):=by
 have hw:=G.goes.gW G.fP;unfold Go.Proofs.YtfakljdleblkoaaGreat.gF;rw[G.hc];dsimp only;rw[fC G.hL,G.at_,hw,eX,eX,fC G.hl,fC G.hl']
abbrev CE:=(Clue×Value)×Bool
def kJ(x:CE):Clue×Bool:=(x.1.1,x.2)
def Eh(x:CE):List Value:=[pK x.1.1 x.1.2,.bool x.2]
def BS(x:CE):List aD:=[ah ae x.1.2 x.1.1.values]
def mg(l:List (Clue×Bool)):List CE:=l.map λy=>((y.1,.nilFunc),y.2)
theorem Lv(l:List (Clue×Bool)):(mg l).map kJ=l:=by
 unfold mg;rw[qE];have:kJ∘(λy:Clue×Bool=>(((y.1,Value.nilFunc),y.2):CE))=id:=rfl;rw[this,GM]
theorem alJ{k:aU}{vh vs vr vc vu gh gc vn vl sc st vp:Value}:
 aQ Tryz.prog (.func 43) [.agg ⟨kG k vh vs vr vc vu gh gc vn vl⟩,.agg ⟨[sc,st]⟩,.agg ⟨[vp]⟩] [] [] [] (λy:Nat×Nat×Nat=>.func (.func 68) #[] #[ptr' y.1,ptr' y.2.1,ptr' y.2.2]) (λ_=>[])
  (λy=>[bz y.1 0 [vp],bz y.2.1 0 (kG k vh vs vr vc vu gh gc vn vl),bz y.2.2 0 [sc,st]]) (λ_=>True):=by
 refine aK _ (aM 43) λB w0=>?_;refine go ?_;intro b3 b4 b5;refine go ?_;refine aZ (dH (b:=b3)) (h:=?_);refine aZ (dH (b:=b4)) (h:=?_);refine aZ (dH (b:=b5)) (h:=?_);exact aj (b5,b3,b4) (hv:=rfl) (hp:=trivial)
theorem alK{b:Nat}{vw:Value}{w:List Int}(hw:w.length<=1000000)(x:List Int)(hx:x.length<=1000000):DZ Tryz.prog (.func 72) [] [ptr' b] [bz b 0 [vw],ah ae vw (bD w)] (λx=>jR x w) x:=by
 have h1:=xS x;intro v;rw[bH];refine aK _ (aM 72) λB w0=>?_;refine go ?_;refine ak (X9 (v:=v) (xs:=x)) (next:=λb1 _=>?_);refine go ?_;refine ak (PZ (Ya (b:=b1) (v:=v) (xs:=x) (by omega)) (λys h=>by rw[h];exact hx)) (next:=λy hy=>?_);obtain⟨v2,BF⟩:=y;have hy:BF=x:=hy;subst hy;dsimp only[List.cons_append,List.nil_append];refine aZ (A:=ap ae v2 (bD BF)) (fs:=[ah ae v2 (bD BF)]) jk (h:=?_);refine go ?_;refine ak (sF (xs:=bD BF) (ys:=bD w) (by omega)) (next:=λ_ _=>?_);refine go ?_;exact aj () (hv:=rfl) (hp:=trivial)
