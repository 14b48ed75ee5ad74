/-
  Constraints met.
-/
import Derived.Test.YtoohgkkmdnbnfaaGreatDoorLibNE
set_option linter.all false
set_option maxRecDepth 10000
set_option maxHeartbeats 2000000
namespace Go.Proofs.YtoohgkkmdnbnfaaGreatDoor
open Go.Ideal Gph
structure afH(q:oP)(c:iU)(grid:List Int):Prop where
 gr:RB grid
 ce:RG grid c.cells
 vs:RH q.values grid
 st:0<=c.set/\c.set<65537
 ot:0<=c.other/\c.other<65537
end Go.Proofs.YtoohgkkmdnbnfaaGreatDoor
namespace Go.Proofs.YtoohgkkmdnbnfaaGreatDoor
open Go.Ideal Gph
end Go.Proofs.YtoohgkkmdnbnfaaGreatDoor
set_option maxHeartbeats 1000000
namespace Go.Proofs.YtoohgkkmdnbnfaaGreatDoor
open Go.Ideal Kd Canon Gph
structure RF(k:bP)(r:aW):Prop where
 kd:1<=r.kind/\r.kind<=11
 x:Ba (gU r.kind) k.decl.bI r
 Tt:r.eU=mK↔r.aJ<0
 s1:∃n:Nat,r.set=(n:Int)/\n<2^k.decl.symbols.length
 s2:∃n:Nat,r.other=(n:Int)/\n<2^k.decl.symbols.length
 f0:0<=r.family/\r.family<k.lists.length
 cl:0<=r.aJ->(r.kind=2\/r.kind=3\/r.kind=5\/r.kind=11)/\∃c,k.decl.bI[r.aJ.toNat]? =some c/\c.family=fA r/\qz c/\(r.kind=2\/r.kind=3->c.type=2)/\(r.kind=5->c.type=3)/\(r.kind=11->c.type=1)
 Tu:r.kind=5\/r.kind=11->0<=r.aJ
 op:r.kind=2\/r.kind=3->1<=r.op/\r.op<=3
theorem Tv{dA:List ByteArray}:∀(l:List ByteArray),(∀s∈l,s∈dA)->jl dA l<2^dA.length:=by
 have h:∀(l:List ByteArray) (m:Nat),m<2^dA.length->(∀s∈l,s∈dA)->l.foldl (λm s=>m|||1<<<gX s dA) m<2^dA.length:=by
  intro l;induction l with
  |nil=>intro m hm _;exact hm
  |cons s l ih=>
   intro m hm hl;rw[rE];refine ih _ (Nat.or_lt_two_pow hm ?_) (λt ht=>hl t (bB _ ht));have:=yo (hl s (bF ..));rw[Nat.one_shiftLeft];exact GG (by omega) (by omega)
 intro l hl;exact h l 0 (Nat.two_pow_pos _) hl
theorem eY.rf{k:bP}(hK:eY k){r:aW}(hr:r∈k.decl.rules):RF k r:=by
 have hty:=hK.typ;have hin:=hK.inr hr;obtain⟨q,hq,hre⟩:=hK.uy hr;have hro:=hK.b.rs.uy q hq;have hrx:=hty.form.l5 r hr;have hkd:1<=r.kind/\r.kind<=11:=by
  refine adL ?_;have:=hty.read;unfold ko at this;rw[List.filterMap_eq_nil_iff]at this;obtain⟨j,hj⟩:=ku hr;have:=this (r,j) (wT.2 hj);cases h:(gU r.kind).read with
  |true=>rfl
  |false=>simp[h]at this
 have hsl:(gD k.decl).length=k.decl.symbols.length:=by unfold gD;rw[bT]
 have hb1:r.eU=q.eU:=by rw[hre];rfl
 have hb2:r.aJ=if q.eU=mK then(-1:Int)else(gX q.eU (jk k.decl):Int):=by rw[hre];rfl
 have hby:r.eU=mK↔r.aJ<0:=by
  rw[hb1,hb2];by_cases e:q.eU=mK
  ·rw[if_pos e];exact⟨λ_=>by omega,λ_=>e⟩
  ·rw[if_neg e];exact⟨λh=>absurd h e,λh=>by omega⟩
 refine⟨hkd,hrx,hby,⟨jl (gD k.decl) q.names,by rw[hre];rfl,by rw[<- hsl];exact Tv _ hro.names⟩,⟨jl (gD k.decl) q.others,by rw[hre];rfl,by rw[<- hsl];exact Tv _ hro.others⟩,hin.oU,?_,?_,?_⟩
 ·intro hc;have hne:r.eU≠mK:=λe=>by have:=hby.1 e;omega
  rcases hrx.SS _ rfl with⟨_,a,_⟩|⟨a0,a1,a2,c,a3,a4,a5⟩
  ·exact absurd a hne
  have hcp:=(hty.form.jZ _ c a3).2;have hk:r.kind=1\/r.kind=2\/r.kind=3\/r.kind=4\/r.kind=5\/r.kind=6\/r.kind=7\/r.kind=8\/r.kind=9\/r.kind=10\/r.kind=11:=by omega
  have hf:∀f:Int,fA r=f->c.family=f->c.family=fA r:=λf h1 h2=>by omega
  rcases hk with e|e|e|e|e|e|e|e|e|e|e<;>rw[e]at a0 a4 a5<;>simp[gU,hne]at a0 a4 a5
  ·exact⟨by omega,c,a3,by unfold fA;rw[if_neg (by omega),if_neg (by omega),if_neg (by omega)];exact a5,hcp,by omega,by omega,by omega⟩
  ·exact⟨by omega,c,a3,by unfold fA;rw[if_neg (by omega),if_neg (by omega),if_neg (by omega)];exact a5,hcp,by omega,by omega,by omega⟩
  ·exact⟨by omega,c,a3,by unfold fA;rw[if_neg (by omega),if_neg (by omega),if_neg (by omega)];exact a5,hcp,by omega,by omega,by omega⟩
  ·refine⟨by omega,c,a3,?_,hcp,by omega,by omega,by omega⟩;unfold fA;rw[if_neg (by omega),if_neg (by omega),if_pos e];unfold qz at hcp;omega
 ·intro h;rcases hrx.SS _ rfl with⟨a0,_,_⟩|⟨_,a1,_⟩
  ·rcases h with e|e<;>rw[e]at a0<;>simp[gU]at a0
  ·exact a1
 ·intro h;refine hrx.op.1 ?_;rcases h with e|e<;>rw[e]<;>rfl
def oh(k:bP)(p:List Clue):oP:=⟨k.grid.cells.length,k.decl.symbols.length,sO k,k.aK,lC k p⟩
theorem RF.list{k:bP}{r:aW}(hK:eY k)(h:RF k r):∃ls,k.lists[(fA r).toNat]? =some ls/\(∀l∈ls,wy k.grid.cells.length l/\l.Nodup)/\
 (r.kind=6\/r.kind=7\/r.kind=8->ls=jo k.aK)/\(r.kind=9\/r.kind=10->ls=[upTo' k.grid.cells.length])/\(r.kind=11->ls=lX k.grid.cells.length):=by
 have hl:=hK.gq;have hf:=h.f0;have h8:(fA r).toNat<k.lists.length:=by
  unfold fA;repeat' split
  all_goals omega
 have hg:=hK.bE;have hrg:∀r∈k.decl.regions,yA (aX k.decl) r.lists:=λr hr=>(hK.typ.F6 r hr).1.2;have hgc:k.grid.cells.length=(aX k.decl).cells.length:=by rw[hK.grid]
 have e:k.lists[(fA r).toNat]? =some (k.lists[(fA r).toNat]'h8):=dz _;generalize k.lists[(fA r).toNat]'h8=ls at e;have hm:=bG e;refine⟨ls,e,λl hl=>⟨?_,?_⟩,λhk=>?_,λhk=>?_,λhk=>?_⟩
 ·rw[hK.lists]at hm;rw[hgc];exact aao hg hrg _ hm l hl
 ·rw[hK.lists]at hm;exact aaC hg hrg _ hm l hl
 ·have e6:fA r=6:=by unfold fA;rw[if_pos hk]
  have:k.lists[(fA r).toNat]? =some (jo k.aK):=by rw[hK.lists,hK.aK,e6];rfl
  rw[e]at this;exact Option.some.inj this
 ·have e7:fA r=7:=by unfold fA;rw[if_neg (by omega),if_pos hk]
  have:k.lists[(fA r).toNat]? =some [upTo' k.grid.cells.length]:=by rw[hgc,hK.lists,e7];rfl
  rw[e]at this;exact Option.some.inj this
 ·have e0:fA r=0:=by unfold fA;rw[if_neg (by omega),if_neg (by omega),if_pos hk]
  have:k.lists[(fA r).toNat]? =some (lX k.grid.cells.length):=by rw[hgc,hK.lists,e0];rfl
  rw[e]at this;exact Option.some.inj this
theorem RF.vals{k:bP}{p:List Clue}{r:aW}{ls:List (List Int)}(h:RF k r)(hQ:j5 k p){y:Nat×List Int×List Int}(hy:y∈jq p r ls):
 (r.aJ<0/\y.2.2=[])\/(0<=r.aJ/\∃c,k.decl.bI[r.aJ.toNat]? =some c/\qz c/\((c.type=1/\r.kind=11/\y.2.2.length=1/\∀x∈y.2.2,0<=x/\x<=(k.decl.symbols.length:Int) - 1)\/(c.type=2/\(r.kind=2\/r.kind=3)/\y.2.2.length=1/\∀x∈y.2.2,0<=x/\x<=65536)\/
   (c.type=3/\r.kind=5/\y.2.2.length<=8/\∀x∈y.2.2,1<=x/\x<=256))):=by
 obtain⟨h1,h2⟩:=Ru.1 hy;rcases h2 with h2|⟨h2,h3⟩
 ·exact .inl h2
 right;refine⟨h2,?_⟩;obtain⟨hk,c,c1,c2,c3,c4,c5,c6⟩:=h.cl h2;refine⟨c,c1,c3,?_⟩;obtain⟨g,g1,g2,g3,g4⟩:=(aaE hQ).1 h3;obtain⟨c',l,a1,a2,a3,a4,a5,a6⟩:=hQ.right g g1;rw[g2,c1]at a2;cases a2;rw[g4]at a6;have hcp:=c3;unfold qz at hcp;have hn:∀x:Int,c.lo<=x/\x<=c.hi->c.type=2->0<=x/\x<=65536:=λx hx ht=>by omega
 rcases a6 with⟨b1,b2,b3⟩|⟨b1,b2,b3⟩|⟨b1,b2,b3,b4⟩
 ·exact .inl ⟨b1,by omega,b2,b3⟩
 ·exact .inr (.inl ⟨b1,by omega,b2,λx hx=>hn x (b3 x hx) b1⟩)
 ·exact .inr (.inr ⟨by omega,by omega,b3,b4⟩)
end Go.Proofs.YtoohgkkmdnbnfaaGreatDoor
namespace Go.Proofs.YtoohgkkmdnbnfaaGreatDoor
open Go.Ideal Kd Canon Gph
section
variable {k:bP} {p:List Clue} {grid:List Int} {r:aW} {q:oP} {i:Nat} {y:Nat×List Int×List Int}
end
end Go.Proofs.YtoohgkkmdnbnfaaGreatDoor
namespace Go.Proofs.YtoohgkkmdnbnfaaGreatDoor
open Go.Ideal Kd Canon Gph
theorem rD{n s:Nat}{kd:Int}{l:List Int}{set other lo hi:Int}{runs:List Int}{ru at_:Int}(hl:wy n l)(hd:l.Nodup)(hk:(1<=kd/\kd<=5)\/((kd=6\/kd=7)/\l.length=2)\/((kd=8\/kd=9)/\l=upTo' n))
 (hs:0<=set/\set<(2^s:Nat)) (ho:0<=other/\other<(2^s:Nat)) (h1:0<=lo/\lo<=65536) (h2:0<=hi/\hi<=65536) (h3:runs.length<=8) (h4:∀x∈runs,1<=x/\x<=256):ni (n:Int) (s:Int) ⟨kd,l,set,other,lo,hi,runs,ru,at_⟩:=by
 refine⟨λi x hx=>?_,hd,?_,λh=>?_,λh=>?_,?_,?_,h1,h2,h3,h4⟩
 ·have:=hl.2 x (bG hx);refine⟨this.1,this.2,λh8=>?_⟩;have h8:8<=kd:=h8;rcases hk with hk|hk|hk
  ·omega
  ·omega
  ·have hx:l[i]? =some x:=hx;rw[hk.2]at hx;exact aaz hx
 ·show 1<=kd/\kd<=9;omega
 ·have h:kd=6\/kd=7:=h;show l.length=2;rcases hk with hk|hk|hk
  ·omega
  ·exact hk.2
  ·omega
 ·have h:8<=kd:=h;show(l.length:Int)=n;rcases hk with hk|hk|hk
  ·omega
  ·omega
  ·rw[hk.2,FC]
 ·rw[kV];exact hs
 ·rw[kV];exact ho
theorem adO{k:bP}{p:List Clue}{r:aW}{i:Nat}{y:Nat×List Int×List Int}(hK:eY k)(hQ:j5 k p)(hr:r∈k.decl.rules)(hy:y∈AV k p r):ni (k.grid.cells.length:Int) (k.decl.symbols.length:Int) (jc r i y):=by
 have hf:=hK.rf hr;obtain⟨ls,hls,hin,h6,h9,h11⟩:=hf.list hK;unfold AV at hy;rw[uq hls]at hy;have hy:=(Br.1 hy).1;have hym:=bG (Ru.1 hy).1;obtain⟨hi1,hi2⟩:=hin _ hym;have hv:=hf.vals hQ hy;have hb:=hf.Tt;obtain⟨s1,hs1,hs2⟩:=hf.s1;obtain⟨s2,ho1,ho2⟩:=hf.s2;have hs:0<=r.set/\r.set<(2^k.decl.symbols.length:Nat):=by omega
 have ho:0<=r.other/\r.other<(2^k.decl.symbols.length:Nat):=by omega
 have h0:0<=(0:Int)/\(0:Int)<(2^k.decl.symbols.length:Nat):=by have:=Nat.two_pow_pos k.decl.symbols.length;omega
 have hn:=hf.x.n;have hz:0<=(0:Int)/\(0:Int)<=65536:=by omega
 have hkd:=hf.kd;have hr0:([]:List Int).length<=8:=by simp
 have hr1:∀x∈([]:List Int),1<=x/\x<=256:=by simp
 have adP:r.kind=2\/r.kind=3->0<=ry r y.2.2/\ry r y.2.2<=65536:=λhk=>by
  unfold ry;by_cases e:r.eU=mK
  ·rw[if_pos e];exact hn
  ·rw[if_neg e];rcases hv with h|⟨_,c,_,_,h|h|h⟩
   ·exact absurd (hb.2 h.1) e
   ·omega
   ·rw[List.getD];cases h2:y.2.2[0]? with
    |none=>simp
    |some v=>exact h.2.2.2 v (bG h2)
   ·omega
 have Gd:r.kind=2\/r.kind=3->∀m:Int,0<=m/\m<=65536->(0<=(jb r y.2.2 m).1/\(jb r y.2.2 m).1<=65536)/\(0<=(jb r y.2.2 m).2/\(jb r y.2.2 m).2<=65536):=λhk m hm=>by
  have:=adP hk;unfold jb;split
  ·dsimp only;omega
  ·split
   ·dsimp only;omega
   ·dsimp only;omega
 have hk:r.kind=1\/r.kind=2\/r.kind=3\/r.kind=4\/r.kind=5\/r.kind=6\/r.kind=7\/r.kind=8\/r.kind=9\/r.kind=10\/r.kind=11:=by omega
 have two:r.kind=6\/r.kind=7\/r.kind=8->y.2.1.length=2:=λh=>by
  rw[h6 h]at hym;obtain⟨_,_,_,_,_,_,e⟩:=Rt hym;rw[e];rfl
 have all:r.kind=9\/r.kind=10->y.2.1=upTo' k.grid.cells.length:=λh=>by
  rw[h9 h]at hym;exact bC.1 hym
 have hlen:0<=(y.2.1.length:Int)/\(y.2.1.length:Int)<=65536:=by have:=hi1.1;omega
 have lit:∀{kd set other lo hi:Int} {runs:List Int},gJ r y.2.1 y.2.2=⟨kd,y.2.1,set,other,lo,hi,runs,0,0⟩->jc r i y=⟨kd,y.2.1,set,other,lo,hi,runs,(i:Int),(y.1:Int)⟩:=λh=>by
  unfold jc;rw[h]
 rcases hk with e|e|e|e|e|e|e|e|e|e|e
 ·rw[lit (kd:=1) (set:=r.set) (other:=r.other) (lo:=r.n) (hi:=0) (runs:=[]) (by simp[gJ,oW,e])];exact rD hi1 hi2 (by omega) hs ho hn hz hr0 hr1
 ·rw[lit (kd:=2) (set:=r.set) (other:=0) (lo:=(jb r y.2.2 y.2.1.length).1) (hi:=(jb r y.2.2 y.2.1.length).2) (runs:=[]) (by simp[gJ,oW,e])];exact rD hi1 hi2 (by omega) hs h0 (Gd (.inl e) _ hlen).1 (Gd (.inl e) _ hlen).2 hr0 hr1
 ·rw[lit (kd:=3) (set:=0) (other:=0) (lo:=(jb r y.2.2 65536).1) (hi:=(jb r y.2.2 65536).2) (runs:=[]) (by simp[gJ,oW,e])];exact rD hi1 hi2 (by omega) h0 h0 (Gd (.inr e) _ (by omega)).1 (Gd (.inr e) _ (by omega)).2 hr0 hr1
 ·rw[lit (kd:=4) (set:=r.set) (other:=r.other) (lo:=r.n) (hi:=0) (runs:=[]) (by simp[gJ,oW,e])];exact rD hi1 hi2 (by omega) hs ho hn hz hr0 hr1
 ·rw[lit (kd:=5) (set:=r.set) (other:=0) (lo:=0) (hi:=0) (runs:=y.2.2) (by simp[gJ,oW,e])];have hvv:y.2.2.length<=8/\∀x∈y.2.2,1<=x/\x<=256:=by
   rcases hv with h|⟨_,c,_,_,h|h|h⟩
   ·rw[h.2];simp
   ·omega
   ·omega
   ·exact h.2.2
  exact rD hi1 hi2 (by omega) hs h0 hz hz hvv.1 hvv.2
 ·rw[lit (kd:=1) (set:=r.set) (other:=r.other) (lo:=r.n) (hi:=0) (runs:=[]) (by simp[gJ,oW,e])];exact rD hi1 hi2 (by omega) hs ho hn hz hr0 hr1
 ·rw[lit (kd:=6) (set:=r.set) (other:=r.other) (lo:=r.n) (hi:=0) (runs:=[]) (by simp[gJ,oW,e])];exact rD hi1 hi2 (.inr (.inl ⟨by omega,two (by omega)⟩)) hs ho hn hz hr0 hr1
 ·rw[lit (kd:=7) (set:=r.set) (other:=r.other) (lo:=r.n) (hi:=0) (runs:=[]) (by simp[gJ,oW,e])];exact rD hi1 hi2 (.inr (.inl ⟨by omega,two (by omega)⟩)) hs ho hn hz hr0 hr1
 ·rw[lit (kd:=8) (set:=r.set) (other:=r.other) (lo:=r.n) (hi:=0) (runs:=[]) (by simp[gJ,oW,e])];exact rD hi1 hi2 (.inr (.inr ⟨by omega,all (by omega)⟩)) hs ho hn hz hr0 hr1
 ·rw[lit (kd:=9) (set:=r.set) (other:=r.other) (lo:=r.n) (hi:=0) (runs:=[]) (by simp[gJ,oW,e])];exact rD hi1 hi2 (.inr (.inr ⟨by omega,all (by omega)⟩)) hs ho hn hz hr0 hr1
 ·rw[lit (kd:=2) (set:=((1<<<(y.2.2.getD 0 0).toNat:Nat):Int)) (other:=0) (lo:=1) (hi:=1) (runs:=[]) (by simp[gJ,oW,e])];have hvv:(y.2.2.getD 0 0).toNat<k.decl.symbols.length:=by
   have hc:=hf.Tu (.inr e);rcases hv with h|⟨_,c,_,_,h|h|h⟩
   ·omega
   ·rw[List.getD];have h2:y.2.2[0]? =some (y.2.2[0]'(by omega)):=dz _;rw[h2];have:=h.2.2.2 _ (bG h2);show(y.2.2[0]'_).toNat<_;omega
   ·omega
   ·omega
  refine rD hi1 hi2 (by omega) ⟨Int.natCast_nonneg _,?_⟩ h0 (by omega) (by omega) hr0 hr1;rw[Nat.one_shiftLeft];exact Int.ofNat_lt.2 (GG (a:=2) (by omega) hvv)
theorem adQ{k:bP}{p:List Clue}{c:iU}:c∈lC k p↔∃(i:Nat) (r:aW),k.decl.rules[i]? =some r/\c∈uB k p r i:=by
 unfold lC;rw[List.mem_flatMap];constructor
 ·rintro⟨⟨r,i⟩,h1,h2⟩;exact⟨i,r,wT.1 h1,h2⟩
 ·rintro⟨i,r,h1,h2⟩;exact⟨(r,i),wT.2 h1,h2⟩
theorem Tw{k:bP}{p:List Clue}(hK:eY k)(hQ:j5 k p)(hm:(lC k p).length<=4096):Ga (oh k p):=by
 have hg:=hK.bE;have hgc:k.grid.cells.length=(aX k.decl).cells.length:=by rw[hK.grid]
 have h1:=hg.len;have h2:=hK.typ.lim.s0;have h3:=hK.typ.lim.s1;have h4:(sO k).length=k.decl.symbols.length:=by unfold sO;rw[bT]
 refine⟨⟨?_,by show(k.grid.cells.length:Int)<=256;omega⟩,⟨by show 1<=(k.decl.symbols.length:Int);omega,by show(k.decl.symbols.length:Int)<=16;omega⟩,by show((sO k).length:Int)=k.decl.symbols.length;omega,λv hv=>?_,?_,?_,hm,λc hc=>?_⟩
 ·have:=hK.typ.Dq;show 1<=(k.grid.cells.length:Int);have:=aaF hg;omega
 ·obtain⟨s,hs,rfl⟩:=ed.1 hv;exact hK.typ.form.dA s hs
 ·show(k.aK.length:Int)=k.grid.cells.length;rw[hK.aK,yz,hgc]
 ·show gQ k.aK;rw[hK.aK];refine⟨by rw[yz];exact hg.len,λi l hl j n hn=>?_⟩;exact Rp hg i l hl j n hn
 ·obtain⟨i,r,h1,h2⟩:=adQ.1 hc;unfold uB at h2;obtain⟨y,hy,rfl⟩:=ed.1 h2;exact adO hK hQ (bG h1) hy
