/- Part. -/
import Derived.Test.YtgimfpcgbmpkhaaGreatLibLV
import Derived.Test.YtgimfpcgbmpkhaaGreatLibMV
import Derived.Test.YtgimfpcgbmpkhaaGreatLibHV
import Derived.Test.YtgimfpcgbmpkhaaGreatLibKV
set_option linter.all false
set_option maxRecDepth 10000
set_option maxHeartbeats 4000000
namespace Go.Proofs.YtgimfpcgbmpkhaaGreat
open Go.Ideal Gph Vm Kd
variable{i:Ins}
def aAv{N k:Nat}{l:ae Ins}(h:l[k]? =some i):jb N (l.take (k+1))=jb N (l.take k)+y7 N i:=by
 rw[rP,h,ama,acg,jb,jb];omega
def axI{N:Nat}(hN:N<=256):∀l:ae Ins,jb N l<=256*l.length
 |[]=>bG _
 |i::l=>by
  have:=axI hN l;rw[jb,rJ];unfold y7;split<;>omega
variable{C S:Nat}{vv vn vt vi:ah}
def aAw:dO Tryz.prog 51 [.agg ⟨apL C S vv vn vt vi⟩,.agg ⟨[iV i.op,iV i.a,iV 0]⟩] [] (iV (y7 C i:Int)):=by
 refine gB 51 λB w0=>?_;refine go ?_;intro b2 b3;refine gH ?_ ?_<;>intro g1
 .refine aK ?_ ?_<;>intro g2
  .refine go ?_;exact ou () (hv:=by unfold y7;rw[if_pos (.inr g2)];rfl) (hp:=trivial)
  .refine go ?_;exact ou () (hv:=by unfold y7;rw[if_neg (by rintro(h|h);exact g1 h;exact g2 h)];rfl) (hp:=trivial)
 .refine go ?_;exact ou () (hv:=by unfold y7;rw[if_pos (.inl g1)];rfl) (hp:=trivial)
variable{values:ae Int}{prog:ae Ins}{ty:Nat->ae Nat}{aH tables:ae (ae Int)}
def aAx(h:arc C S values aH tables prog ty):fC Tryz.prog 11 [.agg ⟨apL C S vv vn vt vi⟩] (as2 vv vn vt vi values aH tables prog) (λ_:Unit=>.tuple ⟨[iV (jb C prog:Int),iV 0]⟩) (λ_=>True):=by
 have hpl:=h.pl;refine gB 11 λB w0=>?_;refine gF iB vi prog λa4 c4 e4=>?_;subst e4;refine go ?_;intro b1;refine gP b1 ?_;refine gC (axD h) λ_ _=>?_;refine gL (λk=>prog.length - k) (λk:Nat=>[(15,iV (k:Int)),(2,iV (jb C (prog.take k):Int))]) (λk=>k<=prog.length) 0 (bI _) ?_;intro k hk;have hle:=axI h.c.2 (prog.take k);rw[gW]at hle;refine aK ?_ ?_<;>intro h1
 .refine gX iB (xs:=prog) λ_ _ i (_:Unit) hi=>?_;have hco:=aAv (N:=C) hi;have hcv:y7 C i<=256:=by have:=h.c.2;unfold y7;split<;>omega
  refine go ?_;intro b6;refine gC (aAw (C:=C) (S:=S) (vv:=vv) (vn:=vn) (vt:=vt) (vi:=.slice a4 prog.length c4) (i:=i)) λ_ _=>?_;refine go ?_;refine aW (k+1) ov ov (hl:=⟨rfl,?_,oV⟩);rw[hco];rfl
 have hke:k=prog.length:=ov
 subst hke;rw[dK];exact dH
def aAy{b2:Nat}{x:Int}:KP Tryz.prog (.func 138) [] [ptr' b2] (iV x) [aX b2 0 (apL C S vv vn vt vi)] (decide (x<0\/(S:Int)<=x)):=by
 refine gB 138 λB w0=>?_;refine gH ?_ ?_<;>intro h1
 .refine aZ ?_;rw[show decide (x<0\/(S:Int)<=x)=decide ((S:Int)<=x)from nZ.2 ⟨λh=>h.elim (λh=>absurd h h1) id,.inr⟩];rfl
 exact mR
variable{vg:ah}{grid:ae Int}
def aAz(h:arc C S values aH tables prog ty)(hg:grid.length=C)(hgr:∀x∈grid,0<=x/\x<S):
 aY Tryz.prog (.func 52) [.agg ⟨apL C S vv vn vt vi⟩,vg] [] [] (ay aj vg grid::as2 vv vn vt vi values aH tables prog) (λbR:Nat=>.tuple ⟨[ptr' bR,iV 0]⟩)
  (λbR=>[pt bR (.cells (runK (C:Int) (S:Int) vv vn vt vi vg (.slice none 0 0) 0 0 0 (-1) (decide ((prog.length:Int)=0))))]) (λ_=>[]) (λ_=>True):=by
 have hc:=h.c;refine gB 52 λB w0=>?_;refine gF iB vi prog λa4 c4 e4=>?_;subst e4;refine gF aj vg grid λa5 c5 e5=>?_;subst e5;refine gF aj vv values λa1 c1 e1=>?_;subst e1;refine gF (aA aj) vn aH λa2 c2 e2=>?_;subst e2;refine gF (aA aj) vt tables λa3 c3 e3=>?_;subst e3;refine go ?_;intro b2;refine gP b2 ?_;refine gC (axD h) λ_ _=>?_;refine gH ?_ ?_<;>intro g1
 rotate_left
 .exfalso;omega
 refine gC (UF (xs:=grid) (p:=λx=>decide (x<0\/(S:Int)<=x)) ov (λx _=>aAy (b2:=b2))) λ_ _=>?_;rw[show grid.any (λx=>decide (x<0\/(S:Int)<=x))=false by
  rw[List.any_eq_false];intro x hx;have:=hgr x hx;simp;omega]
 refine go ?_;intro bR;refine go ?_;exact gQ bR trivial
variable{K:Nat}{b:Int}{m:Vm.Env}
def aAA{tl:ae Ins}{st rg:ae Int}(h:Run m (i::tl) st rg K b):y7 m.grid.length i<=K:=by
 cases h<;>simp[y7]
def av2(m:Vm.Env)(prog:ae Ins)(K:Nat)(b fuel:Int)(X:atx×Nat):Prop:=
 X.2<=K/\(K:Int) - X.2<=fuel/\((X.1.en=true/\X.1.br=b/\X.2=0)\/(X.1.en=false/\X.1.br= -1/\X.1.at_<prog.length/\Run m (prog.drop X.1.at_) X.1.st [X.1.r0,X.1.r1] X.2 b/\X.1.st.length<=X.1.at_))
variable{fuel:Int}
def aAB(hf:0<=fuel)(h:Run m prog [] [0,0] K b):av2 m prog K b fuel (⟨.slice none 0 0,[],0,0,0, -1,decide ((prog.length:Int)=0)⟩,K):=by
 refine⟨bG _,by show(K:Int) - K<=fuel;omega,?_⟩;cases prog with
 |nil=>cases h;exact .inl ⟨rfl,rfl,rfl⟩
 |cons i tl=>exact .inr ⟨(dA (by rw[rJ];omega):decide (((i::tl).length:Int)=0)=false),rfl,by show 0<(i::tl).length;simp,h,bG _⟩
def av3{K1 c:Nat}{aG:Nat}{st0:ae Int}{y:atx}(h1:K1<=K)(h2:(K:Int) - K1+c<=fuel)(hs:st0.length<=aG)(h:av0 m prog aG c K1 b st0 y):∃K2,K1=c+K2/\av2 m prog K b fuel (y,K2)/\2*(prog.length - y.at_)+(if y.en=true then 0 else 1)<2*(prog.length - aG)+(if(false:Bool)=true then 0 else 1)\/aG>=prog.length:=by
 by_cases hat:aG>=prog.length
 .exact⟨0,.inr hat⟩
 obtain⟨K2,e,hl,hh⟩:=h;refine⟨K2,.inl ⟨e,⟨by show K2<=K;omega,by show(K:Int) - K2<=fuel;omega,?_⟩,?_⟩⟩
 .rcases hh with⟨a1,a2,a3,_⟩|⟨a1,a2,a3,a4,a5⟩
  .exact .inl ⟨a1,a2,a3⟩
  .exact .inr ⟨a1,a2,a4,a5,by show y.st.length<=y.at_;omega⟩
 .rcases hh with⟨a1,_,_,a4⟩|⟨a1,a2,a3,a4,a5⟩
  .rw[a1,if_pos rfl,if_neg ox];omega
  .rw[a1,if_neg ox];omega
def aAC(h:arc C S m.values m.aH m.tables prog ty)(hg:m.grid.length=C)(hgr:∀x∈m.grid,0<=x/\x<S)(htt:∀t∈m.tables,t.length<2^63)(hrun:Run m prog [] [0,0] K b)(hf:0<=fuel/\fuel<=16777216)(hK:K<=16777216):
 fC Tryz.prog 12 [.agg ⟨apL C S vv vn vt vi⟩,vg,iV fuel] (ay aj vg m.grid::as2 vv vn vt vi m.values m.aH m.tables prog) (λ_:Unit=>.tuple ⟨if fuel<K then[iV 0,iV 0,iV 220]else[iV b,iV (fuel - K),iV 0]⟩) (λ_=>True):=by
 have hc:=h.c;have hs:=h.s;have hpl:=h.pl;have hRS:axH m prog:=⟨hpl,ov,λx hx=>by have:=hgr x hx;omega,h.ng,h.ns,by rw[h.nl,hg],htt⟩
 refine gB 12 λB w0=>?_;refine gF iB vi prog λa4 c4 e4=>?_;subst e4;refine go ?_;intro b3;refine gP b3 ?_;refine gC (aAz (grid:=m.grid) h hg hgr) λbR _=>?_;refine gH ?_ ?_<;>intro g1
 rotate_left
 .exfalso;omega
 refine aK ?_ ?_<;>intro g2
 .exfalso;omega
 refine gC aAt λbT _=>?_;refine go ?_;refine awg aj ?_;rw[show sk aj (.slice none 0 0) []=sk aj (.slice none 0 0) (pzR [])from rfl];refine dL (λX:atx×Nat=>2*(prog.length - X.1.at_)+(if X.1.en=true then 0 else 1)) (λX=>[(2,iV (fuel - ((K:Int) - X.2)))]) (λX=>[pt bR (.cells (runK (C:Int) (S:Int) vv vn vt (.slice a4 prog.length c4) vg X.1.vk X.1.r0 X.1.r1 (X.1.at_:Int) X.1.br X.1.en)),sk aj X.1.vk (pzR X.1.st)]) (λ_=>[]) (av2 m prog K b fuel) (⟨.slice none 0 0,[],0,0,0, -1,decide ((prog.length:Int)=0)⟩,K) (aAB hf.1 hrun) (hl:=⟨by rw[Int.sub_self,Int.sub_zero];rfl,oV⟩) (hk:=aJ.cons (aD.there aD.here) (aJ.cons aD.here aJ.nil)) (body:=?_);intro X hX;obtain⟨⟨vk,st,r0,r1,at_,br,en⟩,K1⟩:=X;obtain⟨hk1,hk2,hX⟩:=hX;dsimp only at hk1 hk2 hX⊢;cases en with
 |true=>
  rcases hX with⟨_,rfl,rfl⟩|⟨h,_⟩
  rotate_left
  .cases h
  refine aZ ?_;rw[if_neg ov];rw[show(K:Int) - ((0:Nat):Int)=K by omega];rfl
 |false=>
  rcases hX with⟨h,_⟩|⟨_,rfl,hat,hr,hsl⟩
  .cases h
  have hdc:=mX hat
  obtain⟨i,hi⟩:∃i,prog[at_]=i:=⟨_,rfl⟩
  rw[hi]at hdc;rw[hdc]at hr;have hgi:prog[at_]? =some i:=by rw[bN hat,hi]
  have hco:=aAA hr;refine gX iB (xs:=prog) (k:=at_) λ_ _ x (_:Unit) hx=>?_;cases hx.symm.trans hgi;refine aK ?_ ?_<;>intro h3
  .have hcv:y7 m.grid.length i=C:=by unfold y7;rw[if_pos (.inl h3),hg]
   rw[hcv]at hco;refine aK (λ_=>?_) (λh=>absurd h3 h);exact cw
  .refine aK ?_ ?_<;>intro h4
   .have hcv:y7 m.grid.length i=C:=by unfold y7;rw[if_pos (.inr h4),hg]
    rw[hcv]at hco;exact cw
   .have hcv:y7 m.grid.length i=1:=by unfold y7;rw[if_neg (by rintro(h|h);exact h3 h;exact h4 h)]
    rw[hcv]at hco;refine aK ?_ ?_<;>intro h5
    .refine go ?_;exact ou () (hv:=by rw[if_pos ov];rfl) (hp:=trivial)
    refine gC (av1 (m:=m) (prog:=prog) (C:=(C:Int)) (S:=(S:Int)) (vv:=vv) (vn:=vn) (vt:=vt) (vi:=.slice a4 prog.length c4) (vg:=vg) (vk:=vk) (r0:=r0) (r1:=r1) (b:=b) (aG:=at_) (bR:=bR) (bT:=bT) (K:=K1) (st:=st) (i:=i) (tl:=prog.drop (at_+1)) hRS hdc ov hr) λy hy=>?_;obtain⟨K2,hy2⟩:=av3 (K:=K) (fuel:=fuel) hk1 (by rw[hcv];omega) hsl hy;rcases hy2 with⟨q1,q2,q3⟩|q
    rotate_left
    .omega
    rw[hcv]at q1;refine go ?_;refine aW (y,K2) q3 q2 (hl:=⟨?_,oV⟩);exact congrArg (Value.int .i64) (show fuel - ((K:Int) - K1) - 1=fuel - ((K:Int) - K2)by omega)
open Go.Ideal Kd Canon Gph Vm
def av5(grid:ae Int)(set:Nat):∀(cells:ae Int) (n:Nat),rn grid set n cells=CS n (cells.map λc=>set.testBit (kH grid c))
 |[],n=>rfl
 |c::cs,n=>by
  rw[rn,iX,CS,av5 grid set cs,av5 grid set cs];rfl
def axJ(grid:ae Int)(set:Nat):∀(cells:ae Int) (m:ae Bool) (i:Nat),i<m.length->(∀c∈cells,0<=c)->(cells.foldl (λm c=>m.set c.toNat (set.testBit (sy grid c))) m)[i]? =if(i:Int)∈cells then some (set.testBit (sy grid (i:Int)))else m[i]?
 |[],m,i,hi,hc=>by simp
 |c::cs,m,i,hi,hc=>by
  rw[vI,axJ grid set cs _ i qt (λx hx=>hc x oR)];have h0:=hc c ox;by_cases h1:(i:Int)∈cs
  .rw[if_pos h1,if_pos (by simp[h1])]
  .rw[if_neg h1];by_cases h2:c=(i:Int)
   .subst h2;rw[if_pos ox,fI,List.getElem?_set_self hi]
   .rw[if_neg (by simp[h1];exact λh=>h2 h.symm),List.getElem?_set_ne ov]
def aAE{set:Nat}{cells:ae Int}(hc:∀c∈cells,0<=c)(h:∀i:Nat,i<grid.length->(i:Int)∈cells):nS grid set cells=Vm.mkV grid (set:Int):=by
 apply iQ;intro i;by_cases hi:i<grid.length
 .have:=axJ grid set cells (List.replicate grid.length false) i qt hc;rw[if_pos (h i hi)]at this;rw[nS,this,Vm.mkV,eF,bN hi];simp[sy,hi]
 .rw[fT (by rw[abO];omega),fT (by rw[Vm.mkV,bi];omega)]
variable{q:Kn}
def av6{c:rZ}(hok:au2 q)(hc:TM q.cells q.symbols c)(hf:Fin q.cells q.symbols grid):nu q c grid=true↔amo q c grid:=by
 have hgl:grid.length=q.aH.length:=tn
 unfold nu amo;by_cases k1:c.kind=1
 .rw[if_pos k1,if_pos k1];exact lV
 rw[if_neg k1,if_neg k1];by_cases k2:c.kind=2
 .rw[if_pos k2,if_pos k2];exact lV
 rw[if_neg k2,if_neg k2];by_cases k3:c.kind=3
 .rw[if_pos k3,if_pos k3];exact lV
 rw[if_neg k3,if_neg k3];by_cases k4:c.kind=4
 .rw[if_pos k4,if_pos k4];exact lV
 rw[if_neg k4,if_neg k4];by_cases k5:c.kind=5
 .rw[if_pos k5,if_pos k5,av5];exact lV
 rw[if_neg k5,if_neg k5];by_cases k6:c.kind=6
 .rw[if_pos k6,if_pos k6];exact lV
 rw[if_neg k6,if_neg k6];by_cases k7:c.kind=7
 .rw[if_pos k7,if_pos k7];show(!((c.set.toNat.testBit (kH grid (c.cells.getD 0 0))&&c.other.toNat.testBit (kH grid (c.cells.getD 1 0)))||(c.set.toNat.testBit (kH grid (c.cells.getD 1 0))&&c.other.toNat.testBit (kH grid (c.cells.getD 0 0)))))=true↔_;cases c.set.toNat.testBit (kH grid (c.cells.getD 0 0))<;>cases c.other.toNat.testBit (kH grid (c.cells.getD 1 0))<;>cases c.set.toNat.testBit (kH grid (c.cells.getD 1 0))<;>cases c.other.toNat.testBit (kH grid (c.cells.getD 0 0))<;>simp
 rw[if_neg k7,if_neg k7];have hk:=hc.kind;have hal:=hc.all ov;have hin:∀i:Nat,i<grid.length->(i:Int)∈c.cells:=λi hi=>by
  have hlt:i<c.cells.length:=by have:=hf.1;omega
  have:=(hc.cell i _ (bN hlt)).2.2 ov;rw[<- this];exact rG hlt
 have hge:∀x∈c.cells,0<=x:=λx hx=>by
  obtain⟨i,hi⟩:=gT hx;exact(hc.cell i x hi).1
 have hs0:=hc.set.1;rw[aAE hge hin,rR hs0];have as0:=hok.au3.avj;have hml:(Vm.mkV grid c.set).length=q.aH.length:=by rw[Vm.mkV,bi,hgl]
 obtain⟨hnd,ar1⟩:=hok.au3.avk;have hl:=ayj (aP:=Vm.mkV grid c.set) as0 hml hnd ar1;unfold yJ;by_cases k9:c.kind=9
 .rw[eB k9];by_cases hp:(fD q.aH (Vm.mkV grid c.set) q.aH.length).2≠0
  .rw[if_pos ⟨rfl,hp⟩];constructor
   .intro hr;have:=hl.2 ⟨λ_=>hr,λ_=>trivial⟩;exact⟨this.2,λ_=>this.1⟩
   .rintro⟨h1,h2⟩;exact(hl.1 ⟨h2 k9,h1⟩).1 hp
  .rw[if_neg (λh=>hp h.2)];have h0:(fD q.aH (Vm.mkV grid c.set) q.aH.length).2=0:=j6.1 hp;rw[h0];refine⟨λ_=>⟨ov,λ_=>?_⟩,λ_=>by decide⟩;have:=hl.2 ⟨λh=>absurd h0 h,λ_=>trivial⟩;exact this.1
 .rw[if_neg (by rw[dA k9];rintro⟨h,_⟩;cases h),lV];exact⟨λh=>⟨h,λh9=>absurd h9 k9⟩,λh=>h.1⟩
def arf(q:Kn)(grid:ae Int):Vm.Env:=⟨grid,q.values,iA q.cons,q.aH⟩
def aAF(hok:au2 q)(hf:Fin q.cells q.symbols grid):JK (arf q grid) q.symbols.toNat:=by
 have h1:=hok.cells;have h2:=hok.symbols;have h3:=hok.PG;have h4:=hok.tT;have h5:=hf.1;obtain⟨hnd,ar1⟩:=hok.au3.avk;exact⟨ov,λx hx=>by have:=hf.2 x hx;omega,by show grid.length<=256;omega,by show q.values.length=_;omega,hok.vals,by show q.aH.length=grid.length;omega,hok.au3.avj,hnd,ar1⟩
def axK(hok:au2 q)(hC:q.cells=C)(hS:q.symbols=S):jb C (j4 q 0 0 q.cons)<=64*szP q:=by
 have h2:=hok.symbols;have h4:=hok.tT;have:=avJ (N:=C) hS ov ov q.cons 0 0 (λc hc=>by have:=hok.fine c hc;rwa [hC,hS]at this);unfold szP;omega
def aAG(hok:au2 q)(hs:au4 q)(hC:q.cells=C)(hS:q.symbols=S)(hz:64*szP q<=16777216):∃ty,arc C S q.values q.aH (iA q.cons) (j4 q 0 0 q.cons) ty:=by
 have h1:=hok.cells;have h2:=hok.symbols;have h3:=hok.PG;have h4:=hok.tT;have h5:=hok.many;have hc:=axK hok hC hS;have hl:=avS (N:=C) ov (j4 q 0 0 q.cons);have ht:=avT q.cons;obtain⟨ty,hty⟩:=ays (awT (nT:=(iA q.cons).length) (C:=C) (S:=S) hS ov ov (λl hl' x hx=>by have:=hok.au3.avj.rg l hl' x hx;unfold Rg at this;omega) q.cons 0 0 (λc hc'=>by have:=hok.fine c hc';rwa [hC,hS]at this) ov ov);exact⟨ty,⟨ov,ov,ov,hok.vals,ov,hok.au3,hs.aH,ov,ov,hty⟩⟩
def aAH(hok:au2 q)(hC:q.cells=C)(hS:q.symbols=S)(hf:Fin q.cells q.symbols grid):∃K,K<=jb C (j4 q 0 0 q.cons)/\Run (arf q grid) (j4 q 0 0 q.cons) [] [0,0] K (aoY q grid 0 q.cons):=by
 have hE:=aAF hok hf;rw[hS,fI]at hE;have hg:(grid.length:Int)=C:=by rw[<- hC];exact hf.1
 obtain⟨K,hK⟩:=awM (m:=arf q grid) hE (q:=q) rfl rfl hS q.cons 0 0 [0,0] (λc hc=>by have:=hok.fine c hc;rw[hC,hS]at this;show TM (grid.length:Int) _ c;rw[hg];exact this) (λi l h=>by rw[gq];exact h) rfl;have:=hK.cost;rw[show(arf q grid).grid.length=C by show grid.length=C;omega]at this;exact⟨K,this,hK⟩
def av7{α β:Type}{f:α->ae β}{n:Nat}:∀{l:ae α},(∀x∈l,(f x).length<=n)->(l.flatMap f).length<=n*l.length
 |[],_=>by simp
 |a::l,h=>by
  have h1:=h a ox;have h2:=av7 (l:=l) (λx hx=>h x oR);exact nh
def aAI(hok:au2 q):∀t∈iA q.cons,t.length<=10000:=by
 intro t ht;unfold iA at ht;obtain⟨c,hc,h⟩:=atK.1 ht;unfold aa7 at h;split at h
 .have ht:=eG.1 h;have hfc:=hok.fine c hc;have h1:=aqW c.runs (λr hr=>(hfc.runs r hr).2);have h2:=hfc.au0;have h3:=av7 (n:=2) (f:=λs=>[vw (mi c.runs) s,vG (mi c.runs) s]) (l:=List.range ((mi c.runs).length+1)) (λ_ _=>bG _);rw[o8]at h3;rw[ht];unfold aam;omega
 .cases h
def atH{V:ae ah}(hok:au2 q)(hs:au4 q)(hC:q.cells=C)(hS:q.symbols=S)(hf:Fin q.cells q.symbols grid)(h:arc C S q.values q.aH (iA q.cons) (j4 q 0 0 q.cons) ty)(hrun:Run (arf q grid) (j4 q 0 0 q.cons) [] [0,0] K b)(hf0:0<=fuel/\fuel<=16777216)(hK:K<=16777216)
 (hV:(if fuel<K then[iV 0,iV 0,iV 220]else[iV b,iV (fuel - K),iV 0])=V):
 fC Tryz.prog 12 [.agg ⟨apL C S vv vn vt vi⟩,vg,iV fuel] (ay aj vg grid::as2 vv vn vt vi q.values q.aH (iA q.cons) (j4 q 0 0 q.cons)) (λ_:Unit=>.tuple ⟨V⟩) (λ_=>True):=by
 subst hV;have hg:(grid.length:Int)=C:=by rw[<- hC];exact hf.1
 exact aAC (m:=arf q grid) h (by show grid.length=C;omega) (λx hx=>by have:=hf.2 x hx;omega) (λt ht=>by
  have:=aAI hok t ht;omega) hrun hf0 hK
def aAJ{g:ae (ae Int)}(hg:jW g):∀l∈g,l.length<=g.length:=λl hl=>by
 have:=an4 (hg.avk.1 l hl) (m:=adm (List.replicate g.length true) g.length) (λc hc=>by
  have:=hg.avj.rg l hl c hc;exact jj)
 exact lA
variable{k:aT}{p:ae Clue}
def aAK(hF:VH k):(mP k p).length<=400:=by
 have h1:=hF.oP;have:=av7 (n:=40) (f:=λx:bF×Nat=>qE k p x.1 x.2) (l:=k.decl.rules.zipIdx) (λx _=>by
  unfold qE Da lY;rw[bi];refine lZ (zh _ _) (lZ (Mg _ _) ?_);rw[W9,DV];cases hg:k.lists[(iG x.1).toNat]? with
  |none=>simp
  |some ls=>exact hF.each ls (aV hg))
 rw[W9]at this;unfold mP;omega
def aAL(hF:VH k)(hok:au2 (yO k p)):64*szP (yO k p)<=16777216:=by
 have h1:=hF.cells;have h2:=hok.tT;have hc:(yO k p).cells=(k.grid.cells.length:Int):=rfl;have hn:(yO k p).aH.length<=16:=ov
 have he:=awX (aH:=(yO k p).aH) (n:=16) (λl hl=>by have:=aAJ hok.au3 l hl;omega);refine ayx (λc hc'=>?_) ov ?_
 .rcases(hok.fine c hc').len with h|h
  .omega
  .rw[h];simp
 .have:=aAK (p:=p) hF;show(mP k p).length<=960;omega
