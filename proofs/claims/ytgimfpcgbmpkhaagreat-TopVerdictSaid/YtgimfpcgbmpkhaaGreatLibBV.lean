/- Part. -/
import Derived.Test.YtgimfpcgbmpkhaaGreatLibAV
set_option linter.all false
set_option maxRecDepth 10000
set_option maxHeartbeats 4000000
namespace Go.Proofs.YtgimfpcgbmpkhaaGreat
open Tryz (prog)
open Go.Ideal Gph
def qH:Enc rZ:=⟨9,ah×ah,λc y=>[iV c.kind,y.1,iV c.set,iV c.other,iV c.lo,iV c.hi,y.2,iV c.rule,iV c.at_],λc y=>[ay aj y.1 c.cells,ay aj y.2 c.runs],λ_ _=>rfl⟩
abbrev ag0(c:rZ)(v1 v2:ah):ae ah:=[iV c.kind,v1,iV c.set,iV c.other,iV c.lo,iV c.hi,v2,iV c.rule,iV c.at_]
abbrev yK(q:Kn)(vv vn vc:ah):ae ah:=[iV q.cells,iV q.symbols,vv,vn,vc]
structure amX(c:rZ):Prop where
 cells:c.cells.length<2^63
 runs:c.runs.length<2^63
variable{x:Int}
def ayz{l:ae Int}{k:Nat}(h:(l.take k).Nodup)(hx:l[k]? =some x)(hn:x∉l.take k):(l.take (k+1)).Nodup:=by
 rw[take_one hx,j5];exact⟨h,ox,by rintro a ha b hb rfl;simp at hb;subst hb;exact hn ha⟩
variable{y:Int}
def avK{lo hi:Int}:Bn [x,y] lo hi=true↔(lo<=x/\x<=hi)/\lo<=y/\y<=hi:=by simp[Bn]
def awZ{b f c:Nat}(hc:2<=c:=by first|exact bG _|omega)(hf:f=0\/f=1:=by first|exact .inl rfl|exact .inr rfl):qV (pt b (.cells [iV x,iV y])) [ay aj (.slice (some ⟨b,0,some f⟩) 2 c) [x,y]]:=uJ (xs:=[x,y]) hc hf
variable{vc vv vn v1 v2:ah}{q:Kn}{c:rZ}
set_option maxRecDepth 100000 in
def ayA(hq:1<=q.cells/\q.cells<=256)(hsy:1<=q.symbols/\q.symbols<=16)(hcs:amX c):
 fC prog 127 [.agg ⟨yK q vv vn vc⟩,.agg ⟨ag0 c v1 v2⟩] [ay aj v1 c.cells,ay aj v2 c.runs] (λb:Bool=>.bool b) (λb=>(b=true↔TM q.cells q.symbols c)):=by
 obtain⟨qc,qs,qv,qn,qk⟩:=q;obtain⟨kd,cells,aqD,aqE,clo,chi,runs,apB,cat⟩:=c;dsimp only at hq hsy;dsimp only[yK,ag0];obtain⟨m,rfl⟩:=dW (show 0<=qs by omega);refine gB 127 λB w0=>?_;have hcl:=hcs.cells;have hrl:=hcs.runs;dsimp only at hcl hrl;refine go ?_;intro b2 b3 b5;refine gP b2 ?_;refine gP b3 ?_;refine go ?_;refine dL (λx=>cells.length - x.1) (λx:Nat×ae Bool=>[(11,iV (x.1:Int))]) (λx=>[pt b5 (.cells (x.2.map .bool))]) (λ_=>[])
  (λx=>x.1<=cells.length/\x.2.length=256/\(∀n:Nat,n<256->x.2.getD n false=decide ((n:Int)∈cells.take x.1))/\(cells.take x.1).Nodup/\∀(i:Nat) y,i<x.1->cells[i]? =some y->0<=y/\y<qc/\(8<=kd->y=i))
  (0,List.replicate 256 false) ⟨bI _,ox,λn hn=>by rw[DV,aeS,if_pos hn];rfl,ox,λi y hi=>by omega⟩
  (hk:=bM) (body:=?_)
 rintro⟨k,s⟩ ⟨hk,hsl,avL,hnd,hall⟩;dsimp only at hk hsl avL hnd hall⊢;refine aK ?_ ?_<;>intro h1
 .refine go ?_;intro _ _ x hx;refine gH ?_ ?_<;>intro h2
  rotate_left
  .exact gR
  refine gH ?_ ?_<;>intro h3
  rotate_left
  .exact gR
  obtain⟨x,rfl⟩:=dW (show 0<=x by omega);have hxl:x<s.length:=ov
  have hsx:=avL x ov;have hgx:s.getD x false=s[x]:=by rw[DV,bN hxl];rfl
  rw[hgx]at hsx;refine go ?_;refine oN (o:=0+(x:Int).toNat*1) (cs:=s.map .bool) (.bool s[x]) (by rw[gq,lU,fI,eF,bN hxl];rfl) ?_;refine gH ?_ ?_<;>intro h4
  rotate_left
  .have hm:(x:Int)∈cells.take k:=by rw[h4]at hsx;exact jI hsx.symm
   refine go ?_;refine gQ false ⟨(λh=>by cases h),λh=>?_⟩;have hn:=List.Nodup.sublist (Mj (k+1) cells) h.nd;rw[take_one hx,j5]at hn;exact absurd rfl (hn.2.2 _ hm (x:Int) ox)
  have hm:(x:Int)∉cells.take k:=by rw[h4]at hsx;exact wS hsx.symm
  have again:(8<=kd->(x:Int)=k)->(k+1<=cells.length/\(s.set x true).length=256/\(∀n:Nat,n<256->(s.set x true).getD n false=decide ((n:Int)∈cells.take (k+1)))/\(cells.take (k+1)).Nodup/\∀(i:Nat) y,i<k+1->cells[i]? =some y->0<=y/\y<qc/\(8<=kd->y=i)):=λqJ=>by
   refine⟨ov,by rw[lu];exact hsl,λn hn=>?_,ayz hnd hx hm,λi y hi hy=>?_⟩
   .have:=avL n hn;rw[take_one hx,DV,rM];by_cases e:x=n
    .subst e;simp[hxl]
    .rw[if_neg e,<- DV,this,nZ,fU];exact⟨.inl,λh=>h.elim id λh=>by simp at h;omega⟩
   .by_cases e:i=k
    .subst e;rw[hx]at hy;cases hy;exact⟨ov,ov,qJ⟩
    .exact hall i y ov hy
  refine gH ?_ ?_<;>intro h5
  .refine go ?_;refine jN (o:=0+(x:Int).toNat*1) (cs:=s.map .bool) (v:=.bool true) (cs':=(s.set x true).map .bool) (by rw[qo,gq,lU,fI]) oF ?_;refine go ?_;exact aW (k+1,s.set x true) pA (again (λh=>absurd h h5))
  refine aK ?_ ?_<;>intro h6
  .refine go ?_;exact gQ false ⟨(λh=>by cases h),λh=>absurd ((h.cell k x hx).2.2 h5) h6⟩
  refine go ?_;refine jN (o:=0+(x:Int).toNat*1) (cs:=s.map .bool) (v:=.bool true) (cs':=(s.set x true).map .bool) (by rw[qo,gq,lU,fI]) oF ?_;refine go ?_;exact aW (k+1,s.set x true) pA (again (λ_=>j6.1 h6))
 have hkl:k=cells.length:=ov
 subst hkl;rw[dK]at hnd;have hall:∀(i:Nat) y,cells[i]? =some y->0<=y/\y<qc/\(8<=kd->y=i):=λi y hy=>hall i y (bz.1 hy).1 hy;have hsh:1<<<m=2^m:=by rw[aoz,BS]
 have hsm:2^m<=2^16:=Nat.pow_le_pow_right ov ov;have hsp:0<2^m:=Nat.two_pow_pos m;refine goB ?_;refine Zn [44,50,57] (λ_:Unit=>[]) (λ_=>[]) (λ_=>[]) (λ_=>(1<=kd/\kd<=9)/\(kd=6\/kd=7->cells.length=2)/\(8<=kd->(cells.length:Int)=qc)) (hx:=?_) (hy:=?_)
 .refine go ?_;by_cases k1:kd=1
  .rw[eB k1];exact cM
  rw[dA k1];refine go ?_;by_cases k2:kd=2
  .rw[eB k2];exact cM
  rw[dA k2];refine go ?_;by_cases k3:kd=3
  .rw[eB k3];exact cM
  rw[dA k3];refine go ?_;by_cases k4:kd=4
  .rw[eB k4];exact cM
  rw[dA k4];refine go ?_;by_cases k5:kd=5
  .rw[eB k5];exact cM
  rw[dA k5];refine go ?_;have two:kd=6\/kd=7->cells.length≠2->¬TM qc (m:Int) ⟨kd,cells,aqD,aqE,clo,chi,runs,apB,cat⟩:=λh h2 hF=>h2 (hF.two h);have all:8<=kd->(cells.length:Int)≠qc->¬TM qc (m:Int) ⟨kd,cells,aqD,aqE,clo,chi,runs,apB,cat⟩:=λh h2 hF=>h2 (hF.all h);by_cases k6:kd=6
  .rw[eB k6];refine aK ?_ ?_<;>intro h2
   .refine go ?_;refine arR ?_;exact gQ false ⟨(λh=>by cases h),λh=>absurd h (two (.inl k6) (λe=>h2 pn))⟩
   exact cM
  rw[dA k6];refine go ?_;by_cases k7:kd=7
  .rw[eB k7];refine aK ?_ ?_<;>intro h2
   .refine go ?_;refine arR ?_;exact gQ false ⟨(λh=>by cases h),λh=>absurd h (two (.inr k7) (λe=>h2 pn))⟩
   exact cM
  rw[dA k7];refine go ?_;by_cases k8:kd=8
  .rw[eB k8];refine aK ?_ ?_<;>intro h2
   .exact ij
   exact cM
  rw[dA k8];refine go ?_;by_cases k9:kd=9
  .rw[eB k9];refine aK ?_ ?_<;>intro h2
   .exact ij
   exact cM
  rw[dA k9];refine go ?_;refine arR ?_;exact gQ false ⟨(λh=>by cases h),λh=>by have:=h.kind;dsimp only at this;omega⟩
 rintro _ ⟨hkd,asB,vz⟩;have akN:TM qc (m:Int) ⟨kd,cells,aqD,aqE,clo,chi,runs,apB,cat⟩↔Bn [aqD,aqE] 0 ((1<<<m:Nat) - 1:Int)=true/\Bn [clo,chi] 0 65536=true/\runs.length<=8/\Bn runs 1 256=true:=by
  constructor
  .intro h;have h1:=h.set;have h2:=h.other;have h3:=h.lo;have h4:=h.hi;dsimp only at h1 h2 h3 h4;rw[fI]at h1 h2;refine⟨avK.2 ⟨⟨h1.1,ov⟩,h2.1,ov⟩,avK.2 ⟨h3,h4⟩,h.au0,eB h.runs⟩
  .rintro⟨h1,h2,h3,h4⟩;rw[avK]at h1 h2;exact{cell:=hall,nd:=hnd,kind:=hkd,two:=asB,all:=vz,set:=⟨h1.1.1,by rw[fI];have:=h1.1.2;show aqD<((2^m:Nat):Int);omega⟩,other:=⟨h1.2.1,by rw[fI];have:=h1.2.2;show aqE<((2^m:Nat):Int);omega⟩,lo:=h2.1,hi:=h2.2,au0:=h3,runs:=jI h4}
 refine go ?_;intro b70;refine gZ (awZ (b:=b70) (f:=0) (c:=2)) ?_;refine q_p (SS (a:=1) (b:=m) rfl rfl ov ov) ?_;refine gC (UH (xs:=[aqD,aqE]) (lo:=0) (hi:=((1<<<m:Nat):Int) - 1) ox) λ_ _=>?_;refine gH ?_ ?_<;>intro h1
 .refine go ?_;exact gQ false ⟨(λh=>by cases h),λh=>by rw[(akN.1 h).1]at h1;cases h1⟩
 refine go ?_;intro b81;refine gZ (awZ (b:=b81) (f:=0) (c:=2)) ?_;refine fH (UH (xs:=[clo,chi]) (lo:=0) (hi:=65536) ox) (next:=λ_ _=>?_);refine gH ?_ ?_<;>intro h2
 .refine go ?_;exact gQ false ⟨(λh=>by cases h),λh=>by rw[(akN.1 h).2.1]at h2;cases h2⟩
 refine gH ?_ ?_<;>intro h3
 .refine go ?_;exact gQ false ⟨(λh=>by cases h),λh=>by have:=(akN.1 h).2.2.1;omega⟩
 refine gC (UH (xs:=runs) (lo:=1) (hi:=256) hrl) λ_ _=>?_;refine go ?_;refine gQ (Bn runs 1 256) ?_;rw[akN];exact⟨λh=>⟨h1,h2,ov,h⟩,λh=>h.2.2.2⟩
abbrev FnQ(P:Program)(fn:Fn)(first cap:ae ah)(F:ae aI)(p:rZ->Prop)(c:rZ):Prop:=
 ∀v1 v2:ah,aY P fn (first++[.agg ⟨ag0 c v1 v2⟩]) cap [] (ay aj v1 c.cells::ay aj v2 c.runs::F) (λb:Bool=>.bool b) (λ_=>[]) (λ_=>[]) (λb=>(b=true↔p c))
variable{fn:Fn}{first cap:ae ah}{F1:ae aI}{p:rZ->Prop}{xs:ae rZ}
def ayD(hl:xs.length<2^63)(hp:∀x∈xs,FnQ prog fn first cap F1 p x):
 fC prog 122 [vc,.func fn ⟨first⟩ ⟨cap⟩] (ay qH vc xs::F1) (λr:Int=>iV r) (λr=>(0<=r↔∃x∈xs,p x)):=by
 refine gB 122 λB w0=>?_;refine gN xs.length 8 (λk=>k<=xs.length/\∀x∈xs.take k,¬p x) ⟨ov,ox⟩ ?_;rintro k ⟨hk,hno⟩;refine aK ?_ ?_<;>intro h1
 .refine gX qH λ_ _ x (y:ah×ah) hx=>?_;refine gC (hp x (aV hx) y.1 y.2) λb hb=>?_;refine go ?_;refine yA rfl (λh2=>?_) (λh2=>?_)
  .refine go ?_;exact gQ (k:Int) ⟨λ_=>⟨x,aV hx,hb.1 h2⟩,λ_=>by omega⟩
  .refine go ?_;refine aW (k+1) ov ⟨ov,λz hz=>?_⟩;rw[take_one hx,fU]at hz;rcases hz with hz|hz
   .exact hno z hz
   .rw[eG.1 hz];intro h;rw[hb.2 h]at h2;cases h2
 refine go ?_;have:k=xs.length:=ov
 subst this;rw[dK]at hno;exact gQ (-1) ⟨λh=>by omega,λ⟨x,hx,h⟩=>absurd h (hno x hx)⟩
def aw0(hl:xs.length<2^63)(hp:∀x∈xs,FnQ prog fn first cap F1 p x):
 fC prog 35 [vc,.func fn ⟨first⟩ ⟨cap⟩] (ay qH vc xs::F1) (λb:Bool=>.bool b) (λb=>(b=true↔∃x∈xs,p x)):=by
 refine gB 35 λB w0=>?_;refine gC (ayD hl hp) λr hr=>?_;refine go ?_;refine gQ (decide (0<=r)) ?_;rw[lV];exact hr
variable{b4:Nat}
def amY{sm:Int}:KP prog (.func 121) [] [ptr' b4] (iV x) [aX b4 0 [iV sm]] (decide (x<0\/sm<=x)):=by
 refine gB 121 λB w0=>?_;refine gH ?_ ?_<;>intro h1
 .refine aZ ?_;rw[show decide (x<0\/sm<=x)=decide (sm<=x)from nZ.2 ⟨λh=>h.elim (λh=>absurd h h1) id,.inr⟩];rfl
 exact mR
def Fin(cells symbols:Int)(grid:ae Int):Prop:=(grid.length:Int)=cells/\∀s∈grid,0<=s/\s<symbols
variable{vg:ah}{grid:ae Int}
def amZ{cells symbols:Int}(hl:grid.length<2^63):
 fC prog 33 [iV cells,iV symbols,vg] [ay aj vg grid] (λb:Bool=>.bool b) (λb=>(b=true↔Fin cells symbols grid)):=by
 refine gB 33 λB w0=>?_;refine go ?_;intro b4;refine gP b4 ?_;refine gH ?_ ?_<;>intro h1
 .refine go ?_;exact gQ false ⟨(λh=>by cases h),λh=>absurd h.1 h1⟩
 refine gC (UF (p:=λx=>decide (x<0\/symbols<=x)) hl (λx _=>amY (b4:=b4) (sm:=symbols))) λ_ _=>?_;refine go ?_;refine gQ (!grid.any λx=>decide (x<0\/symbols<=x)) ?_;rw[List.not_any_eq_all_not];simp only[jU,Md,decide_eq_false_iff_not,not_or,Int.not_lt,Int.not_le];exact⟨λh=>⟨h1,h⟩,λh=>h.2⟩
structure au2(q:Kn):Prop where
 cells:1<=q.cells/\q.cells<=256
 symbols:1<=q.symbols/\q.symbols<=16
 PG:(q.values.length:Int)=q.symbols
 vals:∀v∈q.values,0<=v/\v<=99
 tT:(q.aH.length:Int)=q.cells
 au3:jW q.aH
 many:q.cons.length<=4096
 fine:∀c∈q.cons,TM q.cells q.symbols c
structure au4(q:Kn):Prop where
 values:q.values.length<2^63
 aH:∀l∈q.aH,l.length<2^63
 cons:q.cons.length<2^63
 con:∀c∈q.cons,amX c
def ayF{b1:Nat}(hq:1<=q.cells/\q.cells<=256)(hsy:1<=q.symbols/\q.symbols<=16)(hc:amX c):
 FnQ prog (.func 126) [] [ptr' b1] [aX b1 0 (yK q vv vn vc)] (λc=>¬TM q.cells q.symbols c) c:=by
 intro v1 v2;refine gB 126 λB w0=>?_;refine go ?_;intro b2;refine fH (ayA (q:=q) (c:=c) hq hsy hc) (next:=λb hb=>?_);refine go ?_;refine gQ (!b) ?_;show(!b)=true↔¬TM q.cells q.symbols c;rw[<- hb];cases b<;>simp
def aw1(hs:au4 q):
 fC prog 38 [.agg ⟨yK q vv vn vc⟩] [ay aj vv q.values,ay (aA aj) vn q.aH,ay qH vc q.cons] (λb:Bool=>iV (if b then 0 else 191)) (λb=>(b=true↔au2 q)):=by
 refine gB 38 λB w0=>?_;refine go ?_;intro b1;refine gP b1 ?_;refine gH ?_ ?_<;>intro h1
 rotate_left
 .exact kx
 refine gH ?_ ?_<;>intro h2
 rotate_left
 .exact kx
 refine gH ?_ ?_<;>intro h3
 rotate_left
 .exact ki
 refine gH ?_ ?_<;>intro h4
 rotate_left
 .exact ki
 refine gH ?_ ?_<;>intro h5
 rotate_left
 .refine go ?_;exact gQ false ⟨(λh=>by cases h),λh=>by have:=h.PG;omega⟩
 refine gC (UH (xs:=q.values) (lo:=0) (hi:=99) hs.values) λ_ _=>?_;refine go ?_;refine yA rfl (λh6=>?_) (λh6=>?_)
 .refine go ?_;refine gQ false ⟨(λh=>by cases h),λh=>?_⟩;have:Bn q.values 0 99=true:=eB h.vals;rw[this]at h6;cases h6
 have avM:∀v∈q.values,0<=v/\v<=99:=jI (by simpa[Bn]using h6);refine gH ?_ ?_<;>intro h7
 rotate_left
 .refine go ?_;exact gQ false ⟨(λh=>by cases h),λh=>by have:=h.tT;omega⟩
 refine gC (amK (g:=q.aH) hs.aH) λb hb=>?_;cases b with
 |false=>
  refine go ?_;exact gQ false ⟨(λh=>by cases h),λh=>absurd (hb.2 h.au3) ox⟩
 |true=>
 have hG:=hb.1 rfl;refine aK ?_ ?_<;>intro h8
 .refine go ?_;exact gQ false ⟨(λh=>by cases h),λh=>by have:=h.many;omega⟩
 refine gC (aw0 (xs:=q.cons) (p:=λc=>¬TM q.cells q.symbols c) hs.cons (λc hc=>ayF (b1:=b1) (q:=q) (vv:=vv) (vn:=vn) (vc:=vc) ⟨ov,ov⟩ ⟨ov,ov⟩ (hs.con c hc))) λb hb=>?_;refine go ?_;refine yA rfl (λh9=>?_) (λh9=>?_)
 .refine go ?_;refine gQ false ⟨(λh=>by cases h),λh=>?_⟩;obtain⟨c,hc,hn⟩:=hb.1 h9;exact absurd (h.fine c hc) hn
 refine go ?_;refine gQ true ⟨λ_=>?_,λ_=>rfl⟩;exact{cells:=⟨ov,ov⟩,symbols:=⟨ov,ov⟩,PG:=ov,vals:=avM,tT:=ov,au3:=hG,many:=ov,fine:=λc hc=>Classical.byContradiction λhn=>(by rw[hb.2 ⟨c,hc,hn⟩]at h9;cases h9)}
def ayG(hs:au4 q)(hl:grid.length<2^63):
 fC prog 34 [.agg ⟨yK q vv vn vc⟩,vg] [ay aj vv q.values,ay (aA aj) vn q.aH,ay qH vc q.cons,ay aj vg grid] (λr:Int=>iV r) (λr=>(¬au2 q->r=191)/\(au2 q->¬Fin q.cells q.symbols grid->r=200)/\(au2 q->Fin q.cells q.symbols grid->r=0)):=by
 refine gB 34 λB w0=>?_;refine go ?_;intro b2;refine fH (aw1 (q:=q) hs) (next:=λb hb=>?_);cases b with
 |false=>
  have hn:¬au2 q:=λh=>absurd (hb.2 h) ox;refine go ?_;exact gQ 191 ⟨λ_=>rfl,λh=>absurd h hn,λh=>absurd h hn⟩
 |true=>
  have hok:=hb.1 rfl;refine gC (amZ (cells:=q.cells) (symbols:=q.symbols) hl) λb hb=>?_;cases b with
  |false=>
   have hn:¬Fin q.cells q.symbols grid:=λh=>absurd (hb.2 h) ox;refine go ?_;exact gQ 200 ⟨λh=>absurd hok h,λ_ _=>rfl,λ_ h=>absurd h hn⟩
  |true=>
   refine go ?_;exact gQ 0 ⟨λh=>absurd hok h,λ_ h=>absurd (hb.1 rfl) h,λ_ _=>rfl⟩
noncomputable def nu(q:Kn)(c:rZ)(grid:ae Int):Bool:=
 if c.kind=1 then Bj grid c.cells
 else if c.kind=2 then decide (c.lo<=(cnt grid c.set.toNat c.cells:Int)/\(cnt grid c.set.toNat c.cells:Int)<=c.hi)
 else if c.kind=3 then decide (c.lo<=qG q.values grid c.cells/\qG q.values grid c.cells<=c.hi)
 else if c.kind=4 then ris q.values grid c.cells
 else if c.kind=5 then decide (rn grid c.set.toNat 0 c.cells=c.runs)
 else if c.kind=6 then decide (c.lo<=max (va q.values grid (c.cells.getD 0 0) - va q.values grid (c.cells.getD 1 0)) (va q.values grid (c.cells.getD 1 0) - va q.values grid (c.cells.getD 0 0)))
 else if c.kind=7 then !((c.set.toNat.testBit (sy grid (c.cells.getD 0 0))&&c.other.toNat.testBit (sy grid (c.cells.getD 1 0)))||(c.set.toNat.testBit (sy grid (c.cells.getD 1 0))&&c.other.toNat.testBit (sy grid (c.cells.getD 0 0))))
 else yJ q.aH (nS grid c.set.toNat c.cells) (decide (c.kind=9))
def avc(grid:ae Int)(set:Nat):∀(cells:ae Int) (n:Nat),(rn grid set n cells).length<=cells.length+1
 |[],n=>by rw[rn];split<;>simp
 |c::cs,n=>by
  rw[rn];split
  .have:=avc grid set cs (n+1);simp;omega
  .split
   .have:=avc grid set cs 0;simp;omega
   .have:=avc grid set cs 0;simp;omega
def aw2{n:Int}:aY prog (.func 123) [iV n] [ptr' b4] [] [aX b4 0 (ag0 c v1 v2)] (λ_:Unit=>.bool (decide (c.lo<=n/\n<=c.hi))) (λ_=>[]) (λ_=>[]) (λ_=>True):=by
 refine gB 123 λB w0=>?_;refine gH ?_ ?_<;>intro h1
 .refine aZ ?_;rw[dA (λh=>h1 h.1)];rfl
 refine aZ ?_;rw[show decide (c.lo<=n/\n<=c.hi)=decide (n<=c.hi)from nZ.2 ⟨λh=>h.2,λh=>⟨h1,h⟩⟩];rfl
structure au6(q:Kn)(c:rZ)(grid:List Int):Prop where
 gr:Bh grid
 ce:Bi grid c.cells
 vs:PE q.values grid
 st:0<=c.set/\c.set<65537
 ot:0<=c.other/\c.other<65537
def sides(hok:au2 q)(hc:TM q.cells q.symbols c)(hf:Fin q.cells q.symbols grid):au6 q c grid:=by
 have h1:=hok.cells;have h2:=hok.symbols;have h3:=hok.PG;have hp:(2:Nat)^q.symbols.toNat<=2^16:=Nat.pow_le_pow_right ov ov;refine⟨⟨by have:=hf.1;omega,λx hx=>by have:=hf.2 x hx;omega⟩,⟨?_,λx hx=>?_⟩,⟨hok.vals,λx hx=>by have:=hf.2 x hx;omega⟩,⟨hc.set.1,by have:=hc.set.2;omega⟩,⟨hc.other.1,by have:=hc.other.2;omega⟩⟩
 .rcases hc.len with h|h
  .omega
  .rw[h];simp
 .obtain⟨i,hi⟩:=gT hx;have:=hc.cell i x hi;have:=hf.1;omega
set_option maxRecDepth 100000 in
def ayH(hok:au2 q)(hs:au4 q)(hc:TM q.cells q.symbols c)(hf:Fin q.cells q.symbols grid):
 dO prog 37 [.agg ⟨yK q vv vn vc⟩,.agg ⟨ag0 c v1 v2⟩,vg] [ay aj vv q.values,ay (aA aj) vn q.aH,ay aj v1 c.cells,ay aj v2 c.runs,ay aj vg grid] (.bool (nu q c grid)):=by
 have sd:=sides hok hc hf;have hgl:grid.length=q.aH.length:=tn
 obtain⟨kd,cells,aqD,aqE,clo,chi,runs,apB,cat⟩:=c;obtain⟨set,rfl⟩:=dW sd.st.1;obtain⟨other,rfl⟩:=dW sd.ot.1;have hset:set<2^63:=by have:=sd.st.2;dsimp only at this;omega
 have hother:other<2^63:=by have:=sd.ot.2;dsimp only at this;omega
 have hg:=sd.gr;have hcl:=sd.ce;have hv:=sd.vs;dsimp only at hcl;have Dr:cells.length<=256:=by
  have:=hok.cells;rcases hc.len with h|h
  .dsimp only at h;omega
  .dsimp only at h;rw[h];simp
 dsimp only[ag0];refine gB 37 λB w0=>?_;refine go ?_;intro b3 b4;refine gP b3 ?_;refine gP b4 ?_;refine go ?_;by_cases k1:kd=1
 .rw[eB k1];refine gC (amA (cells:=cells) hg hcl) λ_ _=>?_;refine aZ ?_;rw[nu,if_pos k1];rfl
 rw[dA k1];refine go ?_;by_cases k2:kd=2
 .rw[eB k2];refine gC (amy (cells:=cells) (set:=set) hg hcl hset) λ_ _=>?_;refine gC (aw2 (b4:=b4) (c:=⟨kd,cells,set,other,clo,chi,runs,apB,cat⟩) (n:=(cnt grid set cells:Int))) λ_ _=>?_;refine aZ ?_;rw[nu,if_neg k1,if_pos k2];rfl
 rw[dA k2];refine go ?_;by_cases k3:kd=3
 .rw[eB k3];refine gC (amz (cells:=cells) hg hcl hv) λ_ _=>?_;refine gC (aw2 (b4:=b4) (c:=⟨kd,cells,set,other,clo,chi,runs,apB,cat⟩) (n:=qG q.values grid cells)) λ_ _=>?_;refine aZ ?_;rw[nu,if_neg k1,if_neg k2,if_pos k3];rfl
 rw[dA k3];refine go ?_;by_cases k4:kd=4
 .rw[eB k4];refine gC (amB (cells:=cells) hg hcl hv) λ_ _=>?_;refine aZ ?_;rw[nu,if_neg k1,if_neg k2,if_neg k3,if_pos k4];rfl
 rw[dA k4];refine go ?_;by_cases k5:kd=5
 .rw[eB k5];refine gC (amE (grid:=grid) (cells:=cells) (set:=set)) λy _=>?_;refine go ?_;have hrl:=avc grid set cells 0;refine fH (amG (amD (b3:=y.1) (b4:=y.2.1) (b5:=y.2.2) hg hcl hset) ov) (next:=λv _=>?_);refine gC (wC (xs:=rn grid set 0 cells) (ys:=runs) ov) λ_ _=>?_;refine aZ ?_;rw[nu,if_neg k1,if_neg k2,if_neg k3,if_neg k4,if_pos k5];rfl
 rw[dA k5];refine go ?_;have two:kd=6\/kd=7->∃x y:Nat,cells=[(x:Int),(y:Int)]:=λh=>by
  have h2:=hc.two h;dsimp only at h2;match cells,h2,hcl with
  |[x,y],_,hcl=>
   have hx:=hcl.cell x ox;have hy:=hcl.cell y ox;obtain⟨x,rfl⟩:=dW hx.1;obtain⟨y,rfl⟩:=dW hy.1;exact⟨x,y,rfl⟩
 by_cases k6:kd=6
 .rw[eB k6];obtain⟨x,y,rfl⟩:=two (.inl k6);have hx:=hcl.cell x ox;have hy:=hcl.cell y ox;have hl2:1<[(x:Int),(y:Int)].length:=by simp
  refine go ?_;intro _ _ x' hx';obtain rfl:(x:Int)=x':=by simpa using hx'
  refine go ?_;intro _ _ s hs';have hss:=hg.jB s (aV hs');have hsv:=hv.jB s (aV hs');obtain⟨s,rfl⟩:=dW hss.1;refine go ?_;intro _ _ v hv1;have hvv:=hv.val v (aV hv1);refine go ?_;intro _ _ y' hy';obtain rfl:(y:Int)=y':=by simpa using hy'
  refine go ?_;intro _ _ u hu';have huu:=hg.jB u (aV hu');have huv:=hv.jB u (aV hu');obtain⟨u,rfl⟩:=dW huu.1;refine go ?_;intro _ _ w hw1;have hww:=hv.val w (aV hw1);refine gC (amC (a:=v) (b:=w) (n:=clo) ⟨ov,ov⟩ ⟨ov,ov⟩) λ_ _=>?_;refine aZ ?_;have hm:nu q ⟨kd,[(x:Int),(y:Int)],set,other,clo,chi,runs,apB,cat⟩ grid=decide (clo<=max (v - w) (w - v)):=by
   rw[nu,if_neg k1,if_neg k2,if_neg k3,if_neg k4,if_neg k5,if_pos k6];show decide (clo<=max (va q.values grid (x:Int) - va q.values grid (y:Int)) (va q.values grid (y:Int) - va q.values grid (x:Int)))=_;rw[abG hs' hv1,abG hu' hw1]
  rw[hm];rfl
 rw[dA k6];refine go ?_;by_cases k7:kd=7
 .rw[eB k7];obtain⟨x,y,rfl⟩:=two (.inr k7);have hx:=hcl.cell x ox;have hy:=hcl.cell y ox;have hl2:1<[(x:Int),(y:Int)].length:=by simp
  refine go ?_;intro _ _ x' hx';obtain rfl:(x:Int)=x':=by simpa using hx'
  refine go ?_;intro _ _ s hs';have hss:=hg.jB s (aV hs');obtain⟨s,rfl⟩:=dW hss.1;refine go ?_;intro _ _ y' hy';obtain rfl:(y:Int)=y':=by simpa using hy'
  refine go ?_;intro _ _ u hu';have huu:=hg.jB u (aV hu');obtain⟨u,rfl⟩:=dW huu.1;have hm:nu q ⟨kd,[(x:Int),(y:Int)],set,other,clo,chi,runs,apB,cat⟩ grid=!((set.testBit s&&other.testBit u)||(set.testBit u&&other.testBit s)):=by
   rw[nu,if_neg k1,if_neg k2,if_neg k3,if_neg k4,if_neg k5,if_neg k6,if_pos k7];show(!((set.testBit (sy grid (x:Int))&&other.testBit (sy grid (y:Int)))||(set.testBit (sy grid (y:Int))&&other.testBit (sy grid (x:Int)))))=_;rw[HV hs',HV hu']
  refine gC (Hz (set:=set) (jB:=s) hset ov) λ_ _=>?_;cases e1:set.testBit s with
  |true=>
   refine gC (Hz (set:=other) (jB:=u) hother ov) λ_ _=>?_;cases e2:other.testBit u with
   |true=>
    refine aZ ?_;rw[hm,e1,e2];rfl
   |false=>
    refine gC (Hz (set:=set) (jB:=u) hset ov) λ_ _=>?_;cases e3:set.testBit u with
    |true=>
     refine gC (Hz (set:=other) (jB:=s) hother ov) λ_ _=>?_;refine aZ ?_;rw[hm,e1,e2,e3];cases other.testBit s<;>first|rfl|(cases other.testBit u<;>rfl)
    |false=>
     refine aZ ?_;rw[hm,e1,e2,e3];exact mo
  |false=>
   refine gC (Hz (set:=set) (jB:=u) hset ov) λ_ _=>?_;cases e3:set.testBit u with
   |true=>
    refine gC (Hz (set:=other) (jB:=s) hother ov) λ_ _=>?_;refine aZ ?_;rw[hm,e1,e3];cases other.testBit s<;>first|rfl|(cases other.testBit u<;>rfl)
   |false=>
    refine aZ ?_;rw[hm,e1,e3];exact mo
 rw[dA k7];refine gC (abP (aH:=q.aH) (grid:=grid) (cells:=cells) (set:=set) (loop:=decide (kd=9)) hok.au3 hs.aH hgl hg hcl hset) λ_ _=>?_;refine aZ ?_;rw[nu,if_neg k1,if_neg k2,if_neg k3,if_neg k4,if_neg k5,if_neg k6,if_neg k7];rfl
abbrev ayI(y:Bool×Int):ah:=.tuple ⟨[.bool y.1,iV y.2]⟩
def ayJ{b2 b3:Nat}(hok:au2 q)(hs:au4 q)(hc:c∈q.cons)(hf:Fin q.cells q.symbols grid):
 FnQ prog (.func 36) [] [ptr' b2,ptr' b3] [aX b2 0 (yK q vv vn vc),aX b3 0 [vg],ay aj vv q.values,ay (aA aj) vn q.aH,ay aj vg grid] (λc=>nu q c grid=false) c:=by
 intro v1 v2;refine gB 36 λB w0=>?_;refine go ?_;intro b4;refine fH (ayH (q:=q) (c:=c) hok hs (hok.fine c hc) hf) (next:=λ_ _=>?_);refine go ?_;refine gQ (!nu q c grid) ?_;show(!nu q c grid)=true↔nu q c grid=false;cases nu q c grid<;>simp
open Classical in
def ayK(hs:au4 q)(hl:grid.length<2^63):
 fC prog 9 [.agg ⟨yK q vv vn vc⟩,vg] [ay aj vv q.values,ay (aA aj) vn q.aH,ay qH vc q.cons,ay aj vg grid] ayI (λy=>(¬au2 q->y=(false,191))/\(au2 q->¬Fin q.cells q.symbols grid->y=(false,200))/\(au2 q->Fin q.cells q.symbols grid->y.2=0/\(y.1=true↔∀c∈q.cons,nu q c grid=true))):=by
 refine gB 9 λB w0=>?_;refine gF aj vg grid λa2 c2 e2=>?_;subst e2;refine go ?_;intro b2 b3;refine gP b2 ?_;refine gP b3 ?_;refine gC (ayG (q:=q) hs hl) λr hr=>?_;refine go ?_;by_cases hok:au2 q
 rotate_left
 .have e:=hr.1 hok;subst e;refine go ?_;exact gQ (false,191) ⟨λ_=>rfl,λh=>absurd h hok,λh=>absurd h hok⟩
 by_cases hf:Fin q.cells q.symbols grid
 rotate_left
 .have e:=hr.2.1 hok hf;subst e;refine go ?_;exact gQ (false,200) ⟨λh=>absurd hok h,λ_ _=>rfl,λ_ h=>absurd h hf⟩
 have e:=hr.2.2 hok hf;subst e;refine gC (aw0 (xs:=q.cons) (p:=λc=>nu q c grid=false) hs.cons (λc hc=>ayJ (b2:=b2) (b3:=b3) (vg:=.slice a2 grid.length c2) (vv:=vv) (vn:=vn) (vc:=vc) hok hs hc hf)) λb hb=>?_;refine go ?_;refine gQ (!b,0) ⟨λh=>absurd hok h,λ_ h=>absurd hf h,λ_ _=>⟨rfl,?_⟩⟩;constructor
 .intro h c hc;cases hm:nu q c grid with
  |true=>rfl
  |false=>rw[hb.2 ⟨c,hc,hm⟩]at h;cases h
 .intro h;cases hbb:b with
  |false=>rfl
  |true=>
   obtain⟨c,hc,hm⟩:=hb.1 hbb;rw[h c hc]at hm;cases hm
