/-
  Graphs with sets of nodes.
-/
import Derived.Test.YtoohgkkmdnbnfaaGreatDoorLibAE
import Derived.Test.YtoohgkkmdnbnfaaGreatDoorPlainAE
set_option linter.all false
set_option maxRecDepth 10000
set_option maxHeartbeats 1000000
namespace Go.Proofs.YtoohgkkmdnbnfaaGreatDoor
open Go.Ideal
set_option maxHeartbeats 2000000
open Go.Ideal Gph
theorem gQ.rg{g:List (List Int)}(h:gQ g):∀l∈g,∀n∈l,Rg g n:=λl hl n hn=>by
 obtain⟨i,hi⟩:=ku hl;obtain⟨k,hk⟩:=ku hn;have:=h.ok i l hi k n hk;exact⟨this.1,this.2.1⟩
structure afw where
 a:Option Addr
 n:Nat
 e:Int
def iW:Enc iU:=⟨9,Value×Value,λc y=>[.int .i64 c.kind,y.1,.int .i64 c.set,.int .i64 c.other,.int .i64 c.lo,.int .i64 c.hi,y.2,.int .i64 c.rule,.int .i64 c.at_],λc y=>[ai ae y.1 c.cells,ai ae y.2 c.runs],λ_ _=>rfl⟩
abbrev Dr(c:iU)(v1 v2:Value):List Value:=[.int .i64 c.kind,v1,.int .i64 c.set,.int .i64 c.other,.int .i64 c.lo,.int .i64 c.hi,v2,.int .i64 c.rule,.int .i64 c.at_]
abbrev kU(q:oP)(vv vn vc:Value):List Value:=[.int .i64 q.cells,.int .i64 q.symbols,vv,vn,vc]
structure Bb(c:iU):Prop where
 cells:c.cells.length<9223372036854775808
 runs:c.runs.length<9223372036854775808
theorem Td{l:List Int}{k:Nat}{x:Int}(h:(l.take k).Nodup)(hx:l[k]? =some x)(hn:x∉l.take k):(l.take (k+1)).Nodup:=by
 rw[take_one hx,gM];exact⟨h,by simp,by rintro a ha b hb rfl;simp at hb;subst hb;exact hn ha⟩
theorem Bc{x y lo hi:Int}:gK [x,y] lo hi=true↔(lo<=x/\x<=hi)/\lo<=y/\y<=hi:=by simp[gK]
theorem kK{b f c:Nat}{x y:Int}(hc:2<=c:=by first|exact bn _|omega)(hf:f=0\/f=1:=by first|exact .inl rfl|exact .inr rfl):p9 (pt b (.cells [.int .i64 x,.int .i64 y])) [ai ae (.slice (some ⟨b,0,some f⟩) 2 c) [x,y]]:=EL (xs:=[x,y]) hc hf
set_option maxRecDepth 100000 in
theorem adx{q:oP}{c:iU}{vv vn vc v1 v2:Value}(hq:1<=q.cells/\q.cells<=256)(hsy:1<=q.symbols/\q.symbols<=16)(hcs:Bb c):
 aV Tryz.prog (.func 56) [.agg ⟨kU q vv vn vc⟩,.agg ⟨Dr c v1 v2⟩] [] [] [ai ae v1 c.cells,ai ae v2 c.runs] (λb:Bool=>.bool b) (λ_=>[]) (λ_=>[]) (λb=>(b=true↔ni q.cells q.symbols c)):=by
 obtain⟨qc,qs,qv,qn,qk⟩:=q;obtain⟨kd,cells,fZ,gp,gF,gG,runs,jB,jC⟩:=c;dsimp only at hq hsy;dsimp only[kU,Dr];obtain⟨m,rfl⟩:=qB (show 0<=qs by omega);refine aS _ (aQ 56) λB w0=>?_;have hcl:=hcs.cells;have hrl:=hcs.runs;dsimp only at hcl hrl;refine go ?_;intro b2 b3 b5;refine aZ (fo (b:=b2)) (h:=?_);refine aZ (fo (b:=b3)) (h:=?_);refine go ?_;refine bJ (λx=>cells.length - x.1) (λx:Nat×List Bool=>[(11,.int .i64 (x.1:Int))]) (λx=>[pt b5 (.cells (x.2.map .bool))]) (λ_=>[])
  (λx=>x.1<=cells.length/\x.2.length=256/\(∀n:Nat,n<256->x.2.getD n false=decide ((n:Int)∈cells.take x.1))/\(cells.take x.1).Nodup/\∀(i:Nat) y,i<x.1->cells[i]? =some y->0<=y/\y<qc/\(8<=kd->y=i))
  (0,List.replicate 256 false) ⟨dD _,by simp,λn hn=>by rw[Md,TU,if_pos hn];rfl,by simp,λi y hi=>by omega⟩
  (hk:=by repeat (first|exact aM.nil|(apply aM.cons;(focus (repeat (first|exact aj.here|apply aj.there)))))) (body:=?_)
 rintro⟨k,s⟩ ⟨hk,hsl,Ld,hnd,hall⟩;dsimp only at hk hsl Ld hnd hall⊢;refine go ?_;refine aG rfl (λh1=>?_) (λh1=>?_)
 ·refine go ?_;intro _ _ x hx;refine go ?_;first|with_reducible refine aN (λh2=>?_) (λh2=>?_)|with_reducible refine aO (λh2=>?_) (λh2=>?_)|with_reducible refine aL (λh2=>?_) (λh2=>?_)
  rotate_left
  ·refine go ?_;exact aa false (hv:=rfl) (hp:=⟨(λh=>by cases h),λh=>by have:=h.cell k x hx;dsimp only at this;omega⟩)
  refine go ?_;first|with_reducible refine aN (λh3=>?_) (λh3=>?_)|with_reducible refine aO (λh3=>?_) (λh3=>?_)|with_reducible refine aL (λh3=>?_) (λh3=>?_)
  rotate_left
  ·refine go ?_;exact aa false (hv:=rfl) (hp:=⟨(λh=>by cases h),λh=>by have:=h.cell k x hx;dsimp only at this;omega⟩)
  obtain⟨x,rfl⟩:=qB (show 0<=x by omega);have hxl:x<s.length:=by omega
  have hsx:=Ld x (by omega);have hgx:s.getD x false=s[x]:=by rw[Md,dz hxl];rfl
  rw[hgx]at hsx;refine go ?_;refine su (o:=0+(x:Int).toNat*1) (cs:=s.map .bool) (.bool s[x]) (by rw[eG,yR,kV,eX,dz hxl];rfl) ?_;refine go ?_;first|with_reducible refine aN (λh4=>?_) (λh4=>?_)|with_reducible refine aO (λh4=>?_) (λh4=>?_)|with_reducible refine aL (λh4=>?_) (λh4=>?_)
  rotate_left
  ·have hm:(x:Int)∈cells.take k:=by rw[h4]at hsx;exact iJ hsx.symm
   refine go ?_;refine aa false (hv:=rfl) (hp:=⟨(λh=>by cases h),λh=>?_⟩);have hn:=List.Nodup.sublist (Mc (k+1) cells) h.nd;rw[take_one hx,gM]at hn;exact absurd rfl (hn.2.2 _ hm (x:Int) (by simp))
  have hm:(x:Int)∉cells.take k:=by rw[h4]at hsx;exact uP hsx.symm
  have again:(8<=kd->(x:Int)=k)->(k+1<=cells.length/\(s.set x true).length=256/\(∀n:Nat,n<256->(s.set x true).getD n false=decide ((n:Int)∈cells.take (k+1)))/\(cells.take (k+1)).Nodup/\∀(i:Nat) y,i<k+1->cells[i]? =some y->0<=y/\y<qc/\(8<=kd->y=i)):=λF8=>by
   refine⟨by omega,by rw[yV];exact hsl,λn hn=>?_,Td hnd hx hm,λi y hi hy=>?_⟩
   ·have:=Ld n hn;rw[take_one hx,Md,rJ];by_cases e:x=n
    ·subst e;simp[hxl]
    ·rw[if_neg e,<- Md,this,rO,eZ];exact⟨.inl,λh=>h.elim id λh=>by simp at h;omega⟩
   ·by_cases e:i=k
    ·subst e;rw[hx]at hy;cases hy;exact⟨by omega,by omega,F8⟩
    ·exact hall i y (by omega) hy
  refine go ?_;first|with_reducible refine aN (λh5=>?_) (λh5=>?_)|with_reducible refine aO (λh5=>?_) (λh5=>?_)|with_reducible refine aL (λh5=>?_) (λh5=>?_)
  ·refine go ?_;refine sj (o:=0+(x:Int).toNat*1) (cs:=s.map .bool) (v:=.bool true) (cs':=(s.set x true).map .bool) (by rw[List.map_set,eG,yR,kV]) (by simp;omega) ?_;refine go ?_;exact bi (k+1,s.set x true) (by show cells.length - (k+1)<cells.length - k;omega) (again (λh=>absurd h h5))
  refine go ?_;refine aG rfl (λh6=>?_) (λh6=>?_)
  ·refine go ?_;exact aa false (hv:=rfl) (hp:=⟨(λh=>by cases h),λh=>absurd ((h.cell k x hx).2.2 h5) h6⟩)
  refine go ?_;refine sj (o:=0+(x:Int).toNat*1) (cs:=s.map .bool) (v:=.bool true) (cs':=(s.set x true).map .bool) (by rw[List.map_set,eG,yR,kV]) (by simp;omega) ?_;refine go ?_;exact bi (k+1,s.set x true) (by show cells.length - (k+1)<cells.length - k;omega) (again (λ_=>nG.1 h6))
 have hkl:k=cells.length:=by omega
 subst hkl;rw[eB]at hnd;have hall:∀(i:Nat) y,cells[i]? =some y->0<=y/\y<qc/\(8<=kd->y=i):=λi y hy=>hall i y (bA.1 hy).1 hy;have hsh:1<<<m=2^m:=by rw[Gw,uQ]
 have hsm:2^m<=2^16:=Nat.pow_le_pow_right (by omega) (by omega);have hsp:0<2^m:=Nat.two_pow_pos m;refine YL ?_;refine Jq [44,50,57] (λ_:Unit=>[]) (λ_=>[]) (λ_=>[]) (λ_=>(1<=kd/\kd<=9)/\(kd=6\/kd=7->cells.length=2)/\(8<=kd->(cells.length:Int)=qc)) (hx:=?_) (hy:=?_)
 ·refine go ?_;by_cases k1:kd=1
  ·rw[dU k1];refine go ?_;exact oN () ⟨by omega,λh=>by omega,λh=>by omega⟩
  rw[cO k1];refine go ?_;by_cases k2:kd=2
  ·rw[dU k2];refine go ?_;exact oN () ⟨by omega,λh=>by omega,λh=>by omega⟩
  rw[cO k2];refine go ?_;by_cases k3:kd=3
  ·rw[dU k3];refine go ?_;exact oN () ⟨by omega,λh=>by omega,λh=>by omega⟩
  rw[cO k3];refine go ?_;by_cases k4:kd=4
  ·rw[dU k4];refine go ?_;exact oN () ⟨by omega,λh=>by omega,λh=>by omega⟩
  rw[cO k4];refine go ?_;by_cases k5:kd=5
  ·rw[dU k5];refine go ?_;exact oN () ⟨by omega,λh=>by omega,λh=>by omega⟩
  rw[cO k5];refine go ?_;have two:kd=6\/kd=7->cells.length≠2->¬ni qc (m:Int) ⟨kd,cells,fZ,gp,gF,gG,runs,jB,jC⟩:=λh h2 hF=>h2 (hF.two h);have all:8<=kd->(cells.length:Int)≠qc->¬ni qc (m:Int) ⟨kd,cells,fZ,gp,gF,gG,runs,jB,jC⟩:=λh h2 hF=>h2 (hF.all h);by_cases k6:kd=6
  ·rw[dU k6];refine go ?_;refine aG rfl (λh2=>?_) (λh2=>?_)
   ·refine go ?_;refine CJ ?_;exact aa false (hv:=rfl) (hp:=⟨(λh=>by cases h),λh=>absurd h (two (.inl k6) (λe=>h2 (by rw[e];rfl)))⟩)
   refine go ?_;exact oN () ⟨by omega,λh=>by omega,λh=>by omega⟩
  rw[cO k6];refine go ?_;by_cases k7:kd=7
  ·rw[dU k7];refine go ?_;refine aG rfl (λh2=>?_) (λh2=>?_)
   ·refine go ?_;refine CJ ?_;exact aa false (hv:=rfl) (hp:=⟨(λh=>by cases h),λh=>absurd h (two (.inr k7) (λe=>h2 (by rw[e];rfl)))⟩)
   refine go ?_;exact oN () ⟨by omega,λh=>by omega,λh=>by omega⟩
  rw[cO k7];refine go ?_;by_cases k8:kd=8
  ·rw[dU k8];refine go ?_;refine aG rfl (λh2=>?_) (λh2=>?_)
   ·refine go ?_;refine CJ ?_;exact aa false (hv:=rfl) (hp:=⟨(λh=>by cases h),λh=>absurd h (all (by omega) h2)⟩)
   refine go ?_;exact oN () ⟨by omega,λh=>by omega,λh=>by omega⟩
  rw[cO k8];refine go ?_;by_cases k9:kd=9
  ·rw[dU k9];refine go ?_;refine aG rfl (λh2=>?_) (λh2=>?_)
   ·refine go ?_;refine CJ ?_;exact aa false (hv:=rfl) (hp:=⟨(λh=>by cases h),λh=>absurd h (all (by omega) h2)⟩)
   refine go ?_;exact oN () ⟨by omega,λh=>by omega,λh=>by omega⟩
  rw[cO k9];refine go ?_;refine CJ ?_;exact aa false (hv:=rfl) (hp:=⟨(λh=>by cases h),λh=>by have:=h.kind;dsimp only at this;omega⟩)
 rintro _ ⟨hkd,ady,F9⟩;have dN:ni qc (m:Int) ⟨kd,cells,fZ,gp,gF,gG,runs,jB,jC⟩↔gK [fZ,gp] 0 ((1<<<m:Nat) - 1:Int)=true/\gK [gF,gG] 0 65536=true/\runs.length<=8/\gK runs 1 256=true:=by
  constructor
  ·intro h;have h1:=h.set;have h2:=h.other;have h3:=h.lo;have h4:=h.hi;dsimp only at h1 h2 h3 h4;rw[kV]at h1 h2;refine⟨Bc.2 ⟨⟨h1.1,by omega⟩,h2.1,by omega⟩,Bc.2 ⟨h3,h4⟩,h.CY,dU h.runs⟩
  ·rintro⟨h1,h2,h3,h4⟩;rw[Bc]at h1 h2;exact{cell:=hall,nd:=hnd,kind:=hkd,two:=ady,all:=F9,set:=⟨h1.1.1,by rw[kV];have:=h1.1.2;show fZ<((2^m:Nat):Int);omega⟩,other:=⟨h1.2.1,by rw[kV];have:=h1.2.2;show gp<((2^m:Nat):Int);omega⟩,lo:=h2.1,hi:=h2.2,CY:=h3,runs:=iJ h4}
 refine go ?_;intro b70;refine aZ (kK (b:=b70) (f:=0) (c:=2)) (h:=?_);refine qV (qa (a:=1) (b:=m) rfl rfl (by omega) (by omega)) ?_;refine go ?_;refine ax (yE (xs:=[fZ,gp]) (lo:=0) (hi:=((1<<<m:Nat):Int) - 1) (by simp)) (next:=λ_ _=>?_);refine go ?_;first|with_reducible refine aN (λh1=>?_) (λh1=>?_)|with_reducible refine aO (λh1=>?_) (λh1=>?_)|with_reducible refine aL (λh1=>?_) (λh1=>?_)
 ·refine go ?_;exact aa false (hv:=rfl) (hp:=⟨(λh=>by cases h),λh=>by rw[(dN.1 h).1]at h1;cases h1⟩)
 refine go ?_;intro b81;refine aZ (kK (b:=b81) (f:=0) (c:=2)) (h:=?_);refine ax (yE (xs:=[gF,gG]) (lo:=0) (hi:=65536) (by simp)) (next:=λ_ _=>?_);refine go ?_;first|with_reducible refine aN (λh2=>?_) (λh2=>?_)|with_reducible refine aO (λh2=>?_) (λh2=>?_)|with_reducible refine aL (λh2=>?_) (λh2=>?_)
 ·refine go ?_;exact aa false (hv:=rfl) (hp:=⟨(λh=>by cases h),λh=>by rw[(dN.1 h).2.1]at h2;cases h2⟩)
 refine go ?_;first|with_reducible refine aN (λh3=>?_) (λh3=>?_)|with_reducible refine aO (λh3=>?_) (λh3=>?_)|with_reducible refine aL (λh3=>?_) (λh3=>?_)
 ·refine go ?_;exact aa false (hv:=rfl) (hp:=⟨(λh=>by cases h),λh=>by have:=(dN.1 h).2.2.1;omega⟩)
 refine go ?_;refine ax (yE (xs:=runs) (lo:=1) (hi:=256) hrl) (next:=λ_ _=>?_);refine go ?_;refine aa (gK runs 1 256) (hv:=rfl) (hp:=?_);rw[dN];exact⟨λh=>⟨h1,h2,by omega,h⟩,λh=>h.2.2.2⟩
abbrev Lf(P:Program)(fn:Fn)(first cap:List Value)(F:List aB)(p:iU->Prop)(c:iU):Prop:=
 ∀v1 v2:Value,aV P fn (first++[.agg ⟨Dr c v1 v2⟩]) cap [] (ai ae v1 c.cells::ai ae v2 c.runs::F) (λb:Bool=>.bool b) (λ_=>[]) (λ_=>[]) (λb=>(b=true↔p c))
theorem adB{fn:Fn}{first cap:List Value}{F1:List aB}{p:iU->Prop}{vc:Value}{xs:List iU}(hl:xs.length<9223372036854775808)(hp:∀x∈xs,Lf Tryz.prog fn first cap F1 p x):
 aV Tryz.prog (.func 86) [vc,.func fn ⟨first⟩ ⟨cap⟩] [] [] (ai iW vc xs::F1) (λr:Int=>.int .i64 r) (λ_=>[]) (λ_=>[]) (λr=>(0<=r↔∃x∈xs,p x)):=by
 refine aS _ (aQ 86) λB w0=>?_;refine go ?_;refine bJ (λk=>xs.length - k) (λk:Nat=>[(8,.int .i64 (k:Int))]) (λ_=>[]) (λ_=>[]) (λk=>k<=xs.length/\∀x∈xs.take k,¬p x) 0 ⟨by omega,by simp⟩ (body:=?_);rintro k ⟨hk,hno⟩;refine go ?_;refine aG rfl (λh1=>?_) (λh1=>?_)
 ·refine go ?_;refine dm iW (next:=λ_ _ x (y:Value×Value) hx=>?_);refine go ?_;refine ax (hp x (bG hx) y.1 y.2) (next:=λb hb=>?_);refine go ?_;refine uj rfl (λh2=>?_) (λh2=>?_)
  ·refine go ?_;exact aa (k:Int) (hv:=rfl) (hp:=⟨λ_=>⟨x,bG hx,hb.1 h2⟩,λ_=>by omega⟩)
  ·refine go ?_;refine bi (k+1) (by omega) ⟨by omega,λz hz=>?_⟩;rw[take_one hx,eZ]at hz;rcases hz with hz|hz
   ·exact hno z hz
   ·rw[bC.1 hz];intro h;rw[hb.2 h]at h2;cases h2
 refine go ?_;have:k=xs.length:=by omega
 subst this;rw[eB]at hno;exact aa (-1) (hv:=rfl) (hp:=⟨λh=>by omega,λ⟨x,hx,h⟩=>absurd h (hno x hx)⟩)
theorem adC{fn:Fn}{first cap:List Value}{F1:List aB}{p:iU->Prop}{vc:Value}{xs:List iU}(hl:xs.length<9223372036854775808)(hp:∀x∈xs,Lf Tryz.prog fn first cap F1 p x):
 aV Tryz.prog (.func 54) [vc,.func fn ⟨first⟩ ⟨cap⟩] [] [] (ai iW vc xs::F1) (λb:Bool=>.bool b) (λ_=>[]) (λ_=>[]) (λb=>(b=true↔∃x∈xs,p x)):=by
 refine aS _ (aQ 54) λB w0=>?_;refine go ?_;refine ax (adB hl hp) (next:=λr hr=>?_);refine go ?_;refine aa (decide (0<=r)) (hv:=rfl) (hp:=?_);rw[wU];exact hr
def Fin(cells symbols:Int)(grid:List Int):Prop:=(grid.length:Int)=cells/\∀s∈grid,0<=s/\s<symbols
structure Ga(q:oP):Prop where
 cells:1<=q.cells/\q.cells<=256
 symbols:1<=q.symbols/\q.symbols<=16
 Dt:(q.values.length:Int)=q.symbols
 vals:∀v∈q.values,0<=v/\v<=99
 Bd:(q.aK.length:Int)=q.cells
 Gb:gQ q.aK
 many:q.cons.length<=4096
 fine:∀c∈q.cons,ni q.cells q.symbols c
structure Be(q:oP):Prop where
 values:q.values.length<9223372036854775808
 aK:∀l∈q.aK,l.length<9223372036854775808
 cons:q.cons.length<9223372036854775808
 Te:∀c∈q.cons,Bb c
theorem adD{b1:Nat}{q:oP}{vv vn vc:Value}{c:iU}(hq:1<=q.cells/\q.cells<=256)(hsy:1<=q.symbols/\q.symbols<=16)(hc:Bb c):
 Lf Tryz.prog (.func 55) [] [ptr' b1] [dF b1 0 (kU q vv vn vc)] (λc=>¬ni q.cells q.symbols c) c:=by
 intro v1 v2;refine aS _ (aQ 55) λB w0=>?_;refine go ?_;intro b2;refine ax (adx (q:=q) (c:=c) hq hsy hc) (next:=λb hb=>?_);refine go ?_;refine aa (!b) (hv:=rfl) (hp:=?_);show(!b)=true↔¬ni q.cells q.symbols c;rw[<- hb];cases b<;>simp
theorem Lg{q:oP}{vv vn vc:Value}(hs:Be q):
 aV Tryz.prog (.func 25) [.agg ⟨kU q vv vn vc⟩] [] [] [ai ae vv q.values,ai (aC ae) vn q.aK,ai iW vc q.cons] (λb:Bool=>.int .i64 (if b then 0 else 191)) (λ_=>[]) (λ_=>[]) (λb=>(b=true↔Ga q)):=by
 refine aS _ (aQ 25) λB w0=>?_;refine go ?_;intro b1;refine aZ (fo (b:=b1)) (h:=?_);refine go ?_;first|with_reducible refine aN (λh1=>?_) (λh1=>?_)|with_reducible refine aO (λh1=>?_) (λh1=>?_)|with_reducible refine aL (λh1=>?_) (λh1=>?_)
 rotate_left
 ·refine go ?_;exact aa false (hv:=rfl) (hp:=⟨(λh=>by cases h),λh=>by have:=h.cells;omega⟩)
 refine go ?_;first|with_reducible refine aN (λh2=>?_) (λh2=>?_)|with_reducible refine aO (λh2=>?_) (λh2=>?_)|with_reducible refine aL (λh2=>?_) (λh2=>?_)
 rotate_left
 ·refine go ?_;exact aa false (hv:=rfl) (hp:=⟨(λh=>by cases h),λh=>by have:=h.cells;omega⟩)
 refine go ?_;first|with_reducible refine aN (λh3=>?_) (λh3=>?_)|with_reducible refine aO (λh3=>?_) (λh3=>?_)|with_reducible refine aL (λh3=>?_) (λh3=>?_)
 rotate_left
 ·refine go ?_;exact aa false (hv:=rfl) (hp:=⟨(λh=>by cases h),λh=>by have:=h.symbols;omega⟩)
 refine go ?_;first|with_reducible refine aN (λh4=>?_) (λh4=>?_)|with_reducible refine aO (λh4=>?_) (λh4=>?_)|with_reducible refine aL (λh4=>?_) (λh4=>?_)
 rotate_left
 ·refine go ?_;exact aa false (hv:=rfl) (hp:=⟨(λh=>by cases h),λh=>by have:=h.symbols;omega⟩)
 refine go ?_;first|with_reducible refine aN (λh5=>?_) (λh5=>?_)|with_reducible refine aO (λh5=>?_) (λh5=>?_)|with_reducible refine aL (λh5=>?_) (λh5=>?_)
 rotate_left
 ·refine go ?_;exact aa false (hv:=rfl) (hp:=⟨(λh=>by cases h),λh=>by have:=h.Dt;omega⟩)
 refine go ?_;refine ax (yE (xs:=q.values) (lo:=0) (hi:=99) hs.values) (next:=λ_ _=>?_);refine go ?_;refine uj rfl (λh6=>?_) (λh6=>?_)
 ·refine go ?_;refine aa false (hv:=rfl) (hp:=⟨(λh=>by cases h),λh=>?_⟩);have:gK q.values 0 99=true:=dU h.vals;rw[this]at h6;cases h6
 have Lh:∀v∈q.values,0<=v/\v<=99:=iJ (by simpa[gK]using h6);refine go ?_;first|with_reducible refine aN (λh7=>?_) (λh7=>?_)|with_reducible refine aO (λh7=>?_) (λh7=>?_)|with_reducible refine aL (λh7=>?_) (λh7=>?_)
 rotate_left
 ·refine go ?_;exact aa false (hv:=rfl) (hp:=⟨(λh=>by cases h),λh=>by have:=h.Bd;omega⟩)
 refine go ?_;refine ax (aaU (g:=q.aK) hs.aK) (next:=λb hb=>?_);cases b with
 |false=>
  refine go ?_;exact aa false (hv:=rfl) (hp:=⟨(λh=>by cases h),λh=>absurd (hb.2 h.Gb) (by simp)⟩)
 |true=>
 have hG:=hb.1 rfl;refine go ?_;refine aG rfl (λh8=>?_) (λh8=>?_)
 ·refine go ?_;exact aa false (hv:=rfl) (hp:=⟨(λh=>by cases h),λh=>by have:=h.many;omega⟩)
 refine go ?_;refine ax (adC (xs:=q.cons) (p:=λc=>¬ni q.cells q.symbols c) hs.cons (λc hc=>adD (b1:=b1) (q:=q) (vv:=vv) (vn:=vn) (vc:=vc) ⟨by omega,by omega⟩ ⟨by omega,by omega⟩ (hs.Te c hc))) (next:=λb hb=>?_);refine go ?_;refine uj rfl (λh9=>?_) (λh9=>?_)
 ·refine go ?_;refine aa false (hv:=rfl) (hp:=⟨(λh=>by cases h),λh=>?_⟩);obtain⟨c,hc,hn⟩:=hb.1 h9;exact absurd (h.fine c hc) hn
 refine go ?_;refine aa true (hv:=rfl) (hp:=⟨λ_=>?_,λ_=>rfl⟩);exact{cells:=⟨by omega,by omega⟩,symbols:=⟨by omega,by omega⟩,Dt:=by omega,vals:=Lh,Bd:=by omega,Gb:=hG,many:=by omega,fine:=λc hc=>Classical.byContradiction λhn=>(by rw[hb.2 ⟨c,hc,hn⟩]at h9;cases h9)}
