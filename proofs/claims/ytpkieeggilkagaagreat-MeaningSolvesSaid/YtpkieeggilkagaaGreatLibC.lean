/-
  Constraints and problems checked.
-/
import Derived.Test.YtpkieeggilkagaaGreatLibB
import Derived.Test.YtpkieeggilkagaaGreatPlainA
import Derived.Test.YtpkieeggilkagaaGreatIdealM
set_option linter.unusedSimpArgs false
set_option linter.unusedVariables false
set_option maxRecDepth 10000
set_option maxHeartbeats 2000000
namespace Go.Proofs.YtpkieeggilkagaaGreat
open Go.Ideal Gph
def consE:Enc Con:=⟨9,Value×Value,fun c y=>[.int .i64 c.kind,y.1,.int .i64 c.set,.int .i64 c.other,.int .i64 c.lo,.int .i64 c.hi,y.2,.int .i64 c.rule,.int .i64 c.at_],fun c y=>[fSl intE y.1 c.cells,fSl intE y.2 c.runs],fun _ _=>rfl⟩
abbrev zKZ(c:Con)(v1 v2:Value):List Value:=[.int .i64 c.kind,v1,.int .i64 c.set,.int .i64 c.other,.int .i64 c.lo,.int .i64 c.hi,v2,.int .i64 c.rule,.int .i64 c.at_]
abbrev zBW(q:zIT)(vv vn vc:Value):List Value:=[.int .i64 q.cells,.int .i64 q.symbols,vv,vn,vc]
structure zUb(c:Con):Prop where
 cells:c.cells.length<9223372036854775808
 runs:c.runs.length<9223372036854775808
theorem zKQ{l:List Int}{k:Nat}{x:Int}(h:(l.take k).Nodup)(hx:l[k]? =some x)(hn:x∉l.take k):(l.take (k+1)).Nodup:=by
 rw[zr hx,List.nodup_append];exact⟨h,by simp,by rintro a ha b hb rfl;simp at hb;subst hb;exact hn ha⟩
theorem zI6{x y lo hi:Int}:wit [x,y] lo hi=true↔(lo≤x∧x≤hi)∧lo≤y∧y≤hi:=by simp[wit]
theorem zNT{b f c:Nat}{x y:Int}(hc:2≤c:=by first|exact Nat.le_refl _|omega)(hf:f=0∨f=1:=by first|exact .inl rfl|exact .inr rfl):Frz (pt b (.cells [.int .i64 x,.int .i64 y])) [fSl intE (.slice (some ⟨b,0,some f⟩) 2 c) [x,y]]:=zCm (xs:=[x,y]) hc hf
set_option maxRecDepth 100000 in
theorem zQd{q:zIT}{c:Con}{vv vn vc v1 v2:Value}(hq:1≤q.cells∧q.cells≤256)(hsy:1≤q.symbols∧q.symbols≤16)(hcs:zUb c):
 FnC Tryz.prog (.func 153) [.agg ⟨zBW q vv vn vc⟩,.agg ⟨zKZ c v1 v2⟩] [] [] [fSl intE v1 c.cells,fSl intE v2 c.runs] (fun b:Bool=>.bool b) (fun _=>[]) (fun _=>[]) (fun b=>(b=true↔zDY q.cells q.symbols c)):=by
 obtain⟨qc,qs,qv,qn,qk⟩:=q;obtain⟨kd,cells,cset,cother,clo,chi,runs,crule,cat⟩:=c;dsimp only at hq hsy;dsimp only[zBW,zKZ];obtain⟨m,rfl⟩:=Int.eq_ofNat_of_zero_le (show 0≤qs by omega);refine zE _ (isC 153) fun B w0=>?_;have hcl:=hcs.cells;have hrl:=hcs.runs;dsimp only at hcl hrl;refine go ?_;intro b2 b3 b5;refine zK (zN (b:=b2)) (h:=?_);refine zK (zN (b:=b3)) (h:=?_);refine go ?_;refine zH (fun x=>cells.length - x.1) (fun x:Nat×List Bool=>[(11,.int .i64 (x.1:Int))]) (fun x=>[pt b5 (.cells (x.2.map .bool))]) (fun _=>[])
  (fun x=>x.1≤cells.length∧x.2.length=256∧(∀n:Nat,n<256→x.2.getD n false=decide ((n:Int)∈cells.take x.1))∧(cells.take x.1).Nodup∧∀(i:Nat) y,i<x.1→cells[i]? =some y→0≤y∧y<qc∧(8≤kd→y=i))
  (0,List.replicate 256 false) ⟨Nat.zero_le _,by simp,fun n hn=>by rw[List.getD_eq_getElem?_getD,List.getElem?_replicate,if_pos hn];rfl,by simp,fun i y hi=>by omega⟩
  (hk:=by repeat (first|exact SelL.nil|(apply SelL.cons;(focus (repeat (first|exact Sel.here|apply Sel.there)))))) (body:=?_)
 rintro⟨k,s⟩ ⟨hk,hsl,hseen,hnd,hall⟩;dsimp only at hk hsl hseen hnd hall⊢;refine go ?_;refine if_d rfl (fun h1=>?_) (fun h1=>?_)
 ·refine go ?_;intro _ _ x hx;refine go ?_;first|with_reducible refine g_d (fun h2=>?_) (fun h2=>?_)|with_reducible refine g_n (fun h2=>?_) (fun h2=>?_)|with_reducible refine g_b (fun h2=>?_) (fun h2=>?_)
  rotate_left
  ·refine go ?_;exact q_fin false (hv:=rfl) (hp:=⟨(fun h=>by cases h),fun h=>by have:=h.cell k x hx;dsimp only at this;omega⟩)
  refine go ?_;first|with_reducible refine g_d (fun h3=>?_) (fun h3=>?_)|with_reducible refine g_n (fun h3=>?_) (fun h3=>?_)|with_reducible refine g_b (fun h3=>?_) (fun h3=>?_)
  rotate_left
  ·refine go ?_;exact q_fin false (hv:=rfl) (hp:=⟨(fun h=>by cases h),fun h=>by have:=h.cell k x hx;dsimp only at this;omega⟩)
  obtain⟨x,rfl⟩:=Int.eq_ofNat_of_zero_le (show 0≤x by omega);have hxl:x<s.length:=by omega
  have hsx:=hseen x (by omega);have hgx:s.getD x false=s[x]:=by rw[List.getD_eq_getElem?_getD,List.getElem?_eq_getElem hxl];rfl
  rw[hgx]at hsx;refine go ?_;refine zDw (o:=0+(x:Int).toNat*1) (cs:=s.map .bool) (.bool s[x]) (by rw[Nat.zero_add,Nat.mul_one,Int.toNat_natCast,List.getElem?_map,List.getElem?_eq_getElem hxl];rfl) ?_;refine go ?_;first|with_reducible refine g_d (fun h4=>?_) (fun h4=>?_)|with_reducible refine g_n (fun h4=>?_) (fun h4=>?_)|with_reducible refine g_b (fun h4=>?_) (fun h4=>?_)
  rotate_left
  ·have hm:(x:Int)∈cells.take k:=by rw[h4]at hsx;exact of_decide_eq_true hsx.symm
   refine go ?_;refine q_fin false (hv:=rfl) (hp:=⟨(fun h=>by cases h),fun h=>?_⟩);have hn:=List.Nodup.sublist (List.take_sublist (k+1) cells) h.nd;rw[zr hx,List.nodup_append]at hn;exact absurd rfl (hn.2.2 _ hm (x:Int) (by simp))
  have hm:(x:Int)∉cells.take k:=by rw[h4]at hsx;exact of_decide_eq_false hsx.symm
  have again:(8≤kd→(x:Int)=k)→(k+1≤cells.length∧(s.set x true).length=256∧(∀n:Nat,n<256→(s.set x true).getD n false=decide ((n:Int)∈cells.take (k+1)))∧(cells.take (k+1)).Nodup∧∀(i:Nat) y,i<k+1→cells[i]? =some y→0≤y∧y<qc∧(8≤kd→y=i)):=fun hord=>by
   refine⟨by omega,by rw[List.length_set];exact hsl,fun n hn=>?_,zKQ hnd hx hm,fun i y hi hy=>?_⟩
   ·have:=hseen n hn;rw[zr hx,List.getD_eq_getElem?_getD,List.getElem?_set];by_cases e:x=n
    ·subst e;simp[hxl]
    ·rw[if_neg e,← List.getD_eq_getElem?_getD,this,decide_eq_decide,List.mem_append];exact⟨.inl,fun h=>h.elim id fun h=>by simp at h;omega⟩
   ·by_cases e:i=k
    ·subst e;rw[hx]at hy;cases hy;exact⟨by omega,by omega,hord⟩
    ·exact hall i y (by omega) hy
  refine go ?_;first|with_reducible refine g_d (fun h5=>?_) (fun h5=>?_)|with_reducible refine g_n (fun h5=>?_) (fun h5=>?_)|with_reducible refine g_b (fun h5=>?_) (fun h5=>?_)
  ·refine go ?_;refine zC4 (o:=0+(x:Int).toNat*1) (cs:=s.map .bool) (v:=.bool true) (cs':=(s.set x true).map .bool) (by rw[List.map_set,Nat.zero_add,Nat.mul_one,Int.toNat_natCast]) (by simp;omega) ?_;refine go ?_;exact zB (k+1,s.set x true) (by show cells.length - (k+1)<cells.length - k;omega) (again (fun h=>absurd h h5))
  refine go ?_;refine if_d rfl (fun h6=>?_) (fun h6=>?_)
  ·refine go ?_;exact q_fin false (hv:=rfl) (hp:=⟨(fun h=>by cases h),fun h=>absurd ((h.cell k x hx).2.2 h5) h6⟩)
  refine go ?_;refine zC4 (o:=0+(x:Int).toNat*1) (cs:=s.map .bool) (v:=.bool true) (cs':=(s.set x true).map .bool) (by rw[List.map_set,Nat.zero_add,Nat.mul_one,Int.toNat_natCast]) (by simp;omega) ?_;refine go ?_;exact zB (k+1,s.set x true) (by show cells.length - (k+1)<cells.length - k;omega) (again (fun _=>Decidable.not_not.1 h6))
 have hkl:k=cells.length:=by omega
 subst hkl;rw[List.take_length]at hnd;have hall:∀(i:Nat) y,cells[i]? =some y→0≤y∧y<qc∧(8≤kd→y=i):=fun i y hy=>hall i y (List.getElem?_eq_some_iff.1 hy).1 hy;have hsh:1<<<m=2^m:=by rw[Nat.shiftLeft_eq,Nat.one_mul]
 have hsm:2^m≤2^16:=Nat.pow_le_pow_right (by omega) (by omega);have hsp:0<2^m:=Nat.two_pow_pos m;refine goB ?_;refine zJF [44,50,57] (fun _:Unit=>[]) (fun _=>[]) (fun _=>[]) (fun _=>(1≤kd∧kd≤9)∧(kd=6∨kd=7→cells.length=2)∧(8≤kd→(cells.length:Int)=qc)) (hx:=?_) (hy:=?_)
 ·refine go ?_;by_cases k1:kd=1
  ·rw[decide_eq_true k1];refine go ?_;exact zBt () ⟨by omega,fun h=>by omega,fun h=>by omega⟩
  rw[decide_eq_false k1];refine go ?_;by_cases k2:kd=2
  ·rw[decide_eq_true k2];refine go ?_;exact zBt () ⟨by omega,fun h=>by omega,fun h=>by omega⟩
  rw[decide_eq_false k2];refine go ?_;by_cases k3:kd=3
  ·rw[decide_eq_true k3];refine go ?_;exact zBt () ⟨by omega,fun h=>by omega,fun h=>by omega⟩
  rw[decide_eq_false k3];refine go ?_;by_cases k4:kd=4
  ·rw[decide_eq_true k4];refine go ?_;exact zBt () ⟨by omega,fun h=>by omega,fun h=>by omega⟩
  rw[decide_eq_false k4];refine go ?_;by_cases k5:kd=5
  ·rw[decide_eq_true k5];refine go ?_;exact zBt () ⟨by omega,fun h=>by omega,fun h=>by omega⟩
  rw[decide_eq_false k5];refine go ?_;have two:kd=6∨kd=7→cells.length≠2→¬zDY qc (m:Int) ⟨kd,cells,cset,cother,clo,chi,runs,crule,cat⟩:=fun h h2 hF=>h2 (hF.two h);have all:8≤kd→(cells.length:Int)≠qc→¬zDY qc (m:Int) ⟨kd,cells,cset,cother,clo,chi,runs,crule,cat⟩:=fun h h2 hF=>h2 (hF.all h);by_cases k6:kd=6
  ·rw[decide_eq_true k6];refine go ?_;refine if_d rfl (fun h2=>?_) (fun h2=>?_)
   ·refine go ?_;refine zTG ?_;exact q_fin false (hv:=rfl) (hp:=⟨(fun h=>by cases h),fun h=>absurd h (two (.inl k6) (fun e=>h2 (by rw[e];rfl)))⟩)
   refine go ?_;exact zBt () ⟨by omega,fun h=>by omega,fun h=>by omega⟩
  rw[decide_eq_false k6];refine go ?_;by_cases k7:kd=7
  ·rw[decide_eq_true k7];refine go ?_;refine if_d rfl (fun h2=>?_) (fun h2=>?_)
   ·refine go ?_;refine zTG ?_;exact q_fin false (hv:=rfl) (hp:=⟨(fun h=>by cases h),fun h=>absurd h (two (.inr k7) (fun e=>h2 (by rw[e];rfl)))⟩)
   refine go ?_;exact zBt () ⟨by omega,fun h=>by omega,fun h=>by omega⟩
  rw[decide_eq_false k7];refine go ?_;by_cases k8:kd=8
  ·rw[decide_eq_true k8];refine go ?_;refine if_d rfl (fun h2=>?_) (fun h2=>?_)
   ·refine go ?_;refine zTG ?_;exact q_fin false (hv:=rfl) (hp:=⟨(fun h=>by cases h),fun h=>absurd h (all (by omega) h2)⟩)
   refine go ?_;exact zBt () ⟨by omega,fun h=>by omega,fun h=>by omega⟩
  rw[decide_eq_false k8];refine go ?_;by_cases k9:kd=9
  ·rw[decide_eq_true k9];refine go ?_;refine if_d rfl (fun h2=>?_) (fun h2=>?_)
   ·refine go ?_;refine zTG ?_;exact q_fin false (hv:=rfl) (hp:=⟨(fun h=>by cases h),fun h=>absurd h (all (by omega) h2)⟩)
   refine go ?_;exact zBt () ⟨by omega,fun h=>by omega,fun h=>by omega⟩
  rw[decide_eq_false k9];refine go ?_;refine zTG ?_;exact q_fin false (hv:=rfl) (hp:=⟨(fun h=>by cases h),fun h=>by have:=h.kind;dsimp only at this;omega⟩)
 rintro _ ⟨hkd,htwo,hall2⟩;have hall':zDY qc (m:Int) ⟨kd,cells,cset,cother,clo,chi,runs,crule,cat⟩↔wit [cset,cother] 0 ((1<<<m:Nat) - 1:Int)=true∧wit [clo,chi] 0 65536=true∧runs.length≤8∧wit runs 1 256=true:=by
  constructor
  ·intro h;have h1:=h.set;have h2:=h.other;have h3:=h.lo;have h4:=h.hi;dsimp only at h1 h2 h3 h4;rw[Int.toNat_natCast]at h1 h2;refine⟨zI6.2 ⟨⟨h1.1,by omega⟩,h2.1,by omega⟩,zI6.2 ⟨h3,h4⟩,h.rlen,decide_eq_true h.runs⟩
  ·rintro⟨h1,h2,h3,h4⟩;rw[zI6]at h1 h2;exact{cell:=hall,nd:=hnd,kind:=hkd,two:=htwo,all:=hall2,set:=⟨h1.1.1,by rw[Int.toNat_natCast];have:=h1.1.2;show cset<((2^m:Nat):Int);omega⟩,other:=⟨h1.2.1,by rw[Int.toNat_natCast];have:=h1.2.2;show cother<((2^m:Nat):Int);omega⟩,lo:=h2.1,hi:=h2.2,rlen:=h3,runs:=of_decide_eq_true h4}
 refine go ?_;intro b70;refine zK (zNT (b:=b70) (f:=0) (c:=2)) (h:=?_);refine q_p (zOK (a:=1) (b:=m) rfl rfl (by omega) (by omega)) ?_;refine go ?_;refine zA (zBF (xs:=[cset,cother]) (lo:=0) (hi:=((1<<<m:Nat):Int) - 1) (by simp)) (next:=fun _ _=>?_);refine go ?_;first|with_reducible refine g_d (fun h1=>?_) (fun h1=>?_)|with_reducible refine g_n (fun h1=>?_) (fun h1=>?_)|with_reducible refine g_b (fun h1=>?_) (fun h1=>?_)
 ·refine go ?_;exact q_fin false (hv:=rfl) (hp:=⟨(fun h=>by cases h),fun h=>by rw[(hall'.1 h).1]at h1;cases h1⟩)
 refine go ?_;intro b81;refine zK (zNT (b:=b81) (f:=0) (c:=2)) (h:=?_);refine zA (zBF (xs:=[clo,chi]) (lo:=0) (hi:=65536) (by simp)) (next:=fun _ _=>?_);refine go ?_;first|with_reducible refine g_d (fun h2=>?_) (fun h2=>?_)|with_reducible refine g_n (fun h2=>?_) (fun h2=>?_)|with_reducible refine g_b (fun h2=>?_) (fun h2=>?_)
 ·refine go ?_;exact q_fin false (hv:=rfl) (hp:=⟨(fun h=>by cases h),fun h=>by rw[(hall'.1 h).2.1]at h2;cases h2⟩)
 refine go ?_;first|with_reducible refine g_d (fun h3=>?_) (fun h3=>?_)|with_reducible refine g_n (fun h3=>?_) (fun h3=>?_)|with_reducible refine g_b (fun h3=>?_) (fun h3=>?_)
 ·refine go ?_;exact q_fin false (hv:=rfl) (hp:=⟨(fun h=>by cases h),fun h=>by have:=(hall'.1 h).2.2.1;omega⟩)
 refine go ?_;refine zA (zBF (xs:=runs) (lo:=1) (hi:=256) hrl) (next:=fun _ _=>?_);refine go ?_;refine q_fin (wit runs 1 256) (hv:=rfl) (hp:=?_);rw[hall'];exact⟨fun h=>⟨h1,h2,by omega,h⟩,fun h=>h.2.2.2⟩
end Go.Proofs.YtpkieeggilkagaaGreat
namespace Go.Proofs.YtpkieeggilkagaaGreat
open Go.Ideal Gph
abbrev FnQ(P:Program)(fn:Fn)(first cap:List Value)(F:List zJ)(p:Con→Prop)(c:Con):Prop:=
 ∀v1 v2:Value,FnC P fn (first++[.agg ⟨zKZ c v1 v2⟩]) cap [] (fSl intE v1 c.cells::fSl intE v2 c.runs::F) (fun b:Bool=>.bool b) (fun _=>[]) (fun _=>[]) (fun b=>(b=true↔p c))
theorem zO8{fn:Fn}{first cap:List Value}{F1:List zJ}{p:Con→Prop}{vc:Value}{xs:List Con}(hl:xs.length<9223372036854775808)(hp:∀x∈xs,FnQ Tryz.prog fn first cap F1 p x):
 FnC Tryz.prog (.func 103) [vc,.func fn ⟨first⟩ ⟨cap⟩] [] [] (fSl consE vc xs::F1) (fun r:Int=>.int .i64 r) (fun _=>[]) (fun _=>[]) (fun r=>(0≤r↔∃x∈xs,p x)):=by
 refine zE _ (isC 103) fun B w0=>?_;refine go ?_;refine zH (fun k=>xs.length - k) (fun k:Nat=>[(8,.int .i64 (k:Int))]) (fun _=>[]) (fun _=>[]) (fun k=>k≤xs.length∧∀x∈xs.take k,¬p x) 0 ⟨by omega,by simp⟩ (body:=?_);rintro k ⟨hk,hno⟩;refine go ?_;refine if_d rfl (fun h1=>?_) (fun h1=>?_)
 ·refine go ?_;refine zV consE (next:=fun _ _ x (y:Value×Value) hx=>?_);refine go ?_;refine zA (hp x (List.mem_of_getElem? hx) y.1 y.2) (next:=fun b hb=>?_);refine go ?_;refine if_b rfl (fun h2=>?_) (fun h2=>?_)
  ·refine go ?_;exact q_fin (k:Int) (hv:=rfl) (hp:=⟨fun _=>⟨x,List.mem_of_getElem? hx,hb.1 h2⟩,fun _=>by omega⟩)
  ·refine go ?_;refine zB (k+1) (by omega) ⟨by omega,fun z hz=>?_⟩;rw[zr hx,List.mem_append]at hz;rcases hz with hz|hz
   ·exact hno z hz
   ·rw[List.mem_singleton.1 hz];intro h;rw[hb.2 h]at h2;cases h2
 refine go ?_;have:k=xs.length:=by omega
 subst this;rw[List.take_length]at hno;exact q_fin (-1) (hv:=rfl) (hp:=⟨fun h=>by omega,fun⟨x,hx,h⟩=>absurd h (hno x hx)⟩)
theorem zJ9{fn:Fn}{first cap:List Value}{F1:List zJ}{p:Con→Prop}{vc:Value}{xs:List Con}(hl:xs.length<9223372036854775808)(hp:∀x∈xs,FnQ Tryz.prog fn first cap F1 p x):
 FnC Tryz.prog (.func 44) [vc,.func fn ⟨first⟩ ⟨cap⟩] [] [] (fSl consE vc xs::F1) (fun b:Bool=>.bool b) (fun _=>[]) (fun _=>[]) (fun b=>(b=true↔∃x∈xs,p x)):=by
 refine zE _ (isC 44) fun B w0=>?_;refine go ?_;refine zA (zO8 hl hp) (next:=fun r hr=>?_);refine go ?_;refine q_fin (decide (0≤r)) (hv:=rfl) (hp:=?_);rw[decide_eq_true_iff];exact hr
theorem zH8{b4:Nat}{sm x:Int}:FnB Tryz.prog (.func 100) [] [ptr' b4] (.int .i64 x) [fRaw b4 0 [.int .i64 sm]] (decide (x<0∨sm≤x)):=by
 refine zE _ (isC 100) fun B w0=>?_;refine go ?_;first|with_reducible refine g_d (fun h1=>?_) (fun h1=>?_)|with_reducible refine g_n (fun h1=>?_) (fun h1=>?_)|with_reducible refine g_b (fun h1=>?_) (fun h1=>?_)
 ·refine go ?_;refine q_fin () (hv:=?_) (hp:=trivial);rw[show decide (x<0∨sm≤x)=decide (sm≤x)from decide_eq_decide.2 ⟨fun h=>h.elim (fun h=>absurd h h1) id,.inr⟩];rfl
 refine go ?_;refine q_fin () (hv:=?_) (hp:=trivial);rw[decide_eq_true (.inl h1)];rfl
def Fin(cells symbols:Int)(grid:List Int):Prop:=(grid.length:Int)=cells∧∀s∈grid,0≤s∧s<symbols
theorem zFR{vg:Value}{cells symbols:Int}{grid:List Int}(hl:grid.length<9223372036854775808):
 FnC Tryz.prog (.func 40) [.int .i64 cells,.int .i64 symbols,vg] [] [] [fSl intE vg grid] (fun b:Bool=>.bool b) (fun _=>[]) (fun _=>[]) (fun b=>(b=true↔Fin cells symbols grid)):=by
 refine zE _ (isC 40) fun B w0=>?_;refine go ?_;intro b4;refine zK (zN (b:=b4)) (h:=?_);refine go ?_;first|with_reducible refine g_d (fun h1=>?_) (fun h1=>?_)|with_reducible refine g_n (fun h1=>?_) (fun h1=>?_)|with_reducible refine g_b (fun h1=>?_) (fun h1=>?_)
 ·refine go ?_;exact q_fin false (hv:=rfl) (hp:=⟨(fun h=>by cases h),fun h=>absurd h.1 h1⟩)
 refine go ?_;refine zA (zJ7 (p:=fun x=>decide (x<0∨symbols≤x)) hl (fun x _=>zH8 (b4:=b4) (sm:=symbols))) (next:=fun _ _=>?_);refine go ?_;refine q_fin (!grid.any fun x=>decide (x<0∨symbols≤x)) (hv:=rfl) (hp:=?_);rw[List.not_any_eq_all_not];simp only[List.all_eq_true,Bool.not_eq_true',decide_eq_false_iff_not,not_or,Int.not_lt,Int.not_le];exact⟨fun h=>⟨h1,h⟩,fun h=>h.2⟩
structure zAK(q:zIT):Prop where
 cells:1≤q.cells∧q.cells≤256
 symbols:1≤q.symbols∧q.symbols≤16
 vlen:(q.values.length:Int)=q.symbols
 vals:∀v∈q.values,0≤v∧v≤99
 nlen:(q.nbs.length:Int)=q.cells
 graph:GOK q.nbs
 many:q.cons.length≤4096
 fine:∀c∈q.cons,zDY q.cells q.symbols c
structure zJG(q:zIT):Prop where
 values:q.values.length<9223372036854775808
 nbs:∀l∈q.nbs,l.length<9223372036854775808
 cons:q.cons.length<9223372036854775808
 con:∀c∈q.cons,zUb c
theorem zMd{b1:Nat}{q:zIT}{vv vn vc:Value}{c:Con}(hq:1≤q.cells∧q.cells≤256)(hsy:1≤q.symbols∧q.symbols≤16)(hc:zUb c):
 FnQ Tryz.prog (.func 152) [] [ptr' b1] [fRaw b1 0 (zBW q vv vn vc)] (fun c=>¬zDY q.cells q.symbols c) c:=by
 intro v1 v2;refine zE _ (isC 152) fun B w0=>?_;refine go ?_;intro b2;refine zA (zQd (q:=q) (c:=c) hq hsy hc) (next:=fun b hb=>?_);refine go ?_;refine q_fin (!b) (hv:=rfl) (hp:=?_);show(!b)=true↔¬zDY q.cells q.symbols c;rw[← hb];cases b<;>simp
theorem zOv{q:zIT}{vv vn vc:Value}(hs:zJG q):
 FnC Tryz.prog (.func 102) [.agg ⟨zBW q vv vn vc⟩] [] [] [fSl intE vv q.values,fSl (slE intE) vn q.nbs,fSl consE vc q.cons] (fun b:Bool=>.int .i64 (if b then 0 else 191)) (fun _=>[]) (fun _=>[]) (fun b=>(b=true↔zAK q)):=by
 refine zE _ (isC 102) fun B w0=>?_;refine go ?_;intro b1;refine zK (zN (b:=b1)) (h:=?_);refine go ?_;first|with_reducible refine g_d (fun h1=>?_) (fun h1=>?_)|with_reducible refine g_n (fun h1=>?_) (fun h1=>?_)|with_reducible refine g_b (fun h1=>?_) (fun h1=>?_)
 rotate_left
 ·refine go ?_;exact q_fin false (hv:=rfl) (hp:=⟨(fun h=>by cases h),fun h=>by have:=h.cells;omega⟩)
 refine go ?_;first|with_reducible refine g_d (fun h2=>?_) (fun h2=>?_)|with_reducible refine g_n (fun h2=>?_) (fun h2=>?_)|with_reducible refine g_b (fun h2=>?_) (fun h2=>?_)
 rotate_left
 ·refine go ?_;exact q_fin false (hv:=rfl) (hp:=⟨(fun h=>by cases h),fun h=>by have:=h.cells;omega⟩)
 refine go ?_;first|with_reducible refine g_d (fun h3=>?_) (fun h3=>?_)|with_reducible refine g_n (fun h3=>?_) (fun h3=>?_)|with_reducible refine g_b (fun h3=>?_) (fun h3=>?_)
 rotate_left
 ·refine go ?_;exact q_fin false (hv:=rfl) (hp:=⟨(fun h=>by cases h),fun h=>by have:=h.symbols;omega⟩)
 refine go ?_;first|with_reducible refine g_d (fun h4=>?_) (fun h4=>?_)|with_reducible refine g_n (fun h4=>?_) (fun h4=>?_)|with_reducible refine g_b (fun h4=>?_) (fun h4=>?_)
 rotate_left
 ·refine go ?_;exact q_fin false (hv:=rfl) (hp:=⟨(fun h=>by cases h),fun h=>by have:=h.symbols;omega⟩)
 refine go ?_;first|with_reducible refine g_d (fun h5=>?_) (fun h5=>?_)|with_reducible refine g_n (fun h5=>?_) (fun h5=>?_)|with_reducible refine g_b (fun h5=>?_) (fun h5=>?_)
 rotate_left
 ·refine go ?_;exact q_fin false (hv:=rfl) (hp:=⟨(fun h=>by cases h),fun h=>by have:=h.vlen;omega⟩)
 refine go ?_;refine zA (zBF (xs:=q.values) (lo:=0) (hi:=99) hs.values) (next:=fun _ _=>?_);refine go ?_;refine if_b rfl (fun h6=>?_) (fun h6=>?_)
 ·refine go ?_;refine q_fin false (hv:=rfl) (hp:=⟨(fun h=>by cases h),fun h=>?_⟩);have:wit q.values 0 99=true:=decide_eq_true h.vals;rw[this]at h6;cases h6
 have hvals:∀v∈q.values,0≤v∧v≤99:=of_decide_eq_true (by simpa[wit]using h6);refine go ?_;first|with_reducible refine g_d (fun h7=>?_) (fun h7=>?_)|with_reducible refine g_n (fun h7=>?_) (fun h7=>?_)|with_reducible refine g_b (fun h7=>?_) (fun h7=>?_)
 rotate_left
 ·refine go ?_;exact q_fin false (hv:=rfl) (hp:=⟨(fun h=>by cases h),fun h=>by have:=h.nlen;omega⟩)
 refine go ?_;refine zA (zIG (g:=q.nbs) hs.nbs) (next:=fun b hb=>?_);cases b with
 |false=>
  refine go ?_;exact q_fin false (hv:=rfl) (hp:=⟨(fun h=>by cases h),fun h=>absurd (hb.2 h.graph) (by simp)⟩)
 |true=>
 have hG:=hb.1 rfl;refine go ?_;refine if_d rfl (fun h8=>?_) (fun h8=>?_)
 ·refine go ?_;exact q_fin false (hv:=rfl) (hp:=⟨(fun h=>by cases h),fun h=>by have:=h.many;omega⟩)
 refine go ?_;refine zA (zJ9 (xs:=q.cons) (p:=fun c=>¬zDY q.cells q.symbols c) hs.cons (fun c hc=>zMd (b1:=b1) (q:=q) (vv:=vv) (vn:=vn) (vc:=vc) ⟨by omega,by omega⟩ ⟨by omega,by omega⟩ (hs.con c hc))) (next:=fun b hb=>?_);refine go ?_;refine if_b rfl (fun h9=>?_) (fun h9=>?_)
 ·refine go ?_;refine q_fin false (hv:=rfl) (hp:=⟨(fun h=>by cases h),fun h=>?_⟩);obtain⟨c,hc,hn⟩:=hb.1 h9;exact absurd (h.fine c hc) hn
 refine go ?_;refine q_fin true (hv:=rfl) (hp:=⟨fun _=>?_,fun _=>rfl⟩);exact{cells:=⟨by omega,by omega⟩,symbols:=⟨by omega,by omega⟩,vlen:=by omega,vals:=hvals,nlen:=by omega,graph:=hG,many:=by omega,fine:=fun c hc=>Classical.byContradiction fun hn=>(by rw[hb.2 ⟨c,hc,hn⟩]at h9;cases h9)}
theorem zJ2{q:zIT}{vv vn vc vg:Value}{grid:List Int}(hs:zJG q)(hl:grid.length<9223372036854775808):
 FnC Tryz.prog (.func 43) [.agg ⟨zBW q vv vn vc⟩,vg] [] [] [fSl intE vv q.values,fSl (slE intE) vn q.nbs,fSl consE vc q.cons,fSl intE vg grid] (fun r:Int=>.int .i64 r) (fun _=>[]) (fun _=>[])
  (fun r=>(¬zAK q→r=191)∧(zAK q→¬Fin q.cells q.symbols grid→r=200)∧(zAK q→Fin q.cells q.symbols grid→r=0)):=by
 refine zE _ (isC 43) fun B w0=>?_;refine go ?_;intro b2;refine zA (zOv (q:=q) hs) (next:=fun b hb=>?_);cases b with
 |false=>
  have hn:¬zAK q:=fun h=>absurd (hb.2 h) (by simp);refine go ?_;exact q_fin 191 (hv:=rfl) (hp:=⟨fun _=>rfl,fun h=>absurd h hn,fun h=>absurd h hn⟩)
 |true=>
  have hok:=hb.1 rfl;refine go ?_;refine zA (zFR (cells:=q.cells) (symbols:=q.symbols) hl) (next:=fun b hb=>?_);cases b with
  |false=>
   have hn:¬Fin q.cells q.symbols grid:=fun h=>absurd (hb.2 h) (by simp);refine go ?_;exact q_fin 200 (hv:=rfl) (hp:=⟨fun h=>absurd hok h,fun _ _=>rfl,fun _ h=>absurd h hn⟩)
  |true=>
   refine go ?_;exact q_fin 0 (hv:=rfl) (hp:=⟨fun h=>absurd hok h,fun _ h=>absurd (hb.1 rfl) h,fun _ _=>rfl⟩)
end Go.Proofs.YtpkieeggilkagaaGreat
namespace Go.Proofs.YtpkieeggilkagaaGreat
open Go.Ideal Gph
noncomputable def metB(q:zIT)(c:Con)(grid:List Int):Bool:=
 if c.kind=1 then dif grid c.cells
 else if c.kind=2 then decide (c.lo≤(cnt grid c.set.toNat c.cells:Int)∧(cnt grid c.set.toNat c.cells:Int)≤c.hi)
 else if c.kind=3 then decide (c.lo≤smm q.values grid c.cells∧smm q.values grid c.cells≤c.hi)
 else if c.kind=4 then ris q.values grid c.cells
 else if c.kind=5 then decide (rn grid c.set.toNat 0 c.cells=c.runs)
 else if c.kind=6 then decide (c.lo≤max (va q.values grid (c.cells.getD 0 0) - va q.values grid (c.cells.getD 1 0)) (va q.values grid (c.cells.getD 1 0) - va q.values grid (c.cells.getD 0 0)))
 else if c.kind=7 then !((c.set.toNat.testBit (sy grid (c.cells.getD 0 0))&&c.other.toNat.testBit (sy grid (c.cells.getD 1 0)))||(c.set.toNat.testBit (sy grid (c.cells.getD 1 0))&&c.other.toNat.testBit (sy grid (c.cells.getD 0 0))))
 else zD4 q.nbs (mkd grid c.set.toNat c.cells) (decide (c.kind=9))
theorem zJu(grid:List Int)(set:Nat):∀(cells:List Int) (n:Nat),(rn grid set n cells).length≤cells.length+1
 |[],n=>by rw[rn];split<;>simp
 |c::cs,n=>by
  rw[rn];split
  ·have:=zJu grid set cs (n+1);simp;omega
  ·split
   ·have:=zJu grid set cs 0;simp;omega
   ·have:=zJu grid set cs 0;simp;omega
theorem zHw{b4:Nat}{c:Con}{v1 v2:Value}{n:Int}:FnC Tryz.prog (.func 104) [.int .i64 n] [ptr' b4] [] [fRaw b4 0 (zKZ c v1 v2)] (fun _:Unit=>.bool (decide (c.lo≤n∧n≤c.hi))) (fun _=>[]) (fun _=>[]) (fun _=>True):=by
 refine zE _ (isC 104) fun B w0=>?_;refine go ?_;first|with_reducible refine g_d (fun h1=>?_) (fun h1=>?_)|with_reducible refine g_n (fun h1=>?_) (fun h1=>?_)|with_reducible refine g_b (fun h1=>?_) (fun h1=>?_)
 ·refine go ?_;refine q_fin () (hv:=?_) (hp:=trivial);rw[decide_eq_false (fun h=>h1 h.1)];rfl
 refine go ?_;refine q_fin () (hv:=?_) (hp:=trivial);rw[show decide (c.lo≤n∧n≤c.hi)=decide (n≤c.hi)from decide_eq_decide.2 ⟨fun h=>h.2,fun h=>⟨h1,h⟩⟩];rfl
structure zT9(q:zIT)(c:Con)(grid:List Int):Prop where
 gr:zDJ grid
 ce:zCA grid c.cells
 vs:zJg q.values grid
 st:0≤c.set∧c.set<65537
 ot:0≤c.other∧c.other<65537
theorem sides{q:zIT}{c:Con}{grid:List Int}(hok:zAK q)(hc:zDY q.cells q.symbols c)(hf:Fin q.cells q.symbols grid):zT9 q c grid:=by
 have h1:=hok.cells;have h2:=hok.symbols;have h3:=hok.vlen;have hp:(2:Nat)^q.symbols.toNat≤2^16:=Nat.pow_le_pow_right (by omega) (by omega);refine⟨⟨by have:=hf.1;omega,fun x hx=>by have:=hf.2 x hx;omega⟩,⟨?_,fun x hx=>?_⟩,⟨hok.vals,fun x hx=>by have:=hf.2 x hx;omega⟩,⟨hc.set.1,by have:=hc.set.2;omega⟩,⟨hc.other.1,by have:=hc.other.2;omega⟩⟩
 ·rcases hc.len with h|h
  ·omega
  ·rw[h];simp
 ·obtain⟨i,hi⟩:=List.getElem?_of_mem hx;have:=hc.cell i x hi;have:=hf.1;omega
set_option maxRecDepth 100000 in
theorem zJt{q:zIT}{c:Con}{vv vn vc v1 v2 vg:Value}{grid:List Int}(hok:zAK q)(hs:zJG q)(hc:zDY q.cells q.symbols c)(hf:Fin q.cells q.symbols grid):
 FnP Tryz.prog 46 [.agg ⟨zBW q vv vn vc⟩,.agg ⟨zKZ c v1 v2⟩,vg] [fSl intE vv q.values,fSl (slE intE) vn q.nbs,fSl intE v1 c.cells,fSl intE v2 c.runs,fSl intE vg grid] (.bool (metB q c grid)):=by
 have sd:=sides hok hc hf;have hgl:grid.length=q.nbs.length:=by have:=hok.nlen;have:=hf.1;omega
 obtain⟨kd,cells,cset,cother,clo,chi,runs,crule,cat⟩:=c;obtain⟨set,rfl⟩:=Int.eq_ofNat_of_zero_le sd.st.1;obtain⟨other,rfl⟩:=Int.eq_ofNat_of_zero_le sd.ot.1;have hset:set<9223372036854775808:=by have:=sd.st.2;dsimp only at this;omega
 have hother:other<9223372036854775808:=by have:=sd.ot.2;dsimp only at this;omega
 have hg:=sd.gr;have hcl:=sd.ce;have hv:=sd.vs;dsimp only at hcl;have hcll:cells.length≤256:=by
  have:=hok.cells;rcases hc.len with h|h
  ·dsimp only at h;omega
  ·dsimp only at h;rw[h];simp
 dsimp only[zKZ];refine zE _ (isC 46) fun B w0=>?_;refine go ?_;intro b3 b4;refine zK (zN (b:=b3)) (h:=?_);refine zK (zN (b:=b4)) (h:=?_);refine go ?_;by_cases k1:kd=1
 ·rw[decide_eq_true k1];refine go ?_;refine zA (zJM (cells:=cells) hg hcl) (next:=fun _ _=>?_);refine go ?_;refine q_fin () (hv:=?_) (hp:=trivial);rw[metB,if_pos k1];rfl
 rw[decide_eq_false k1];refine go ?_;by_cases k2:kd=2
 ·rw[decide_eq_true k2];refine go ?_;refine zA (zHi (cells:=cells) (set:=set) hg hcl hset) (next:=fun _ _=>?_);refine go ?_;refine zA (zHw (b4:=b4) (c:=⟨kd,cells,set,other,clo,chi,runs,crule,cat⟩) (n:=(cnt grid set cells:Int))) (next:=fun _ _=>?_);refine go ?_;refine q_fin () (hv:=?_) (hp:=trivial);rw[metB,if_neg k1,if_pos k2];rfl
 rw[decide_eq_false k2];refine go ?_;by_cases k3:kd=3
 ·rw[decide_eq_true k3];refine go ?_;refine zA (zMG (cells:=cells) hg hcl hv) (next:=fun _ _=>?_);refine go ?_;refine zA (zHw (b4:=b4) (c:=⟨kd,cells,set,other,clo,chi,runs,crule,cat⟩) (n:=smm q.values grid cells)) (next:=fun _ _=>?_);refine go ?_;refine q_fin () (hv:=?_) (hp:=trivial);rw[metB,if_neg k1,if_neg k2,if_pos k3];rfl
 rw[decide_eq_false k3];refine go ?_;by_cases k4:kd=4
 ·rw[decide_eq_true k4];refine go ?_;refine zA (zJN (cells:=cells) hg hcl hv) (next:=fun _ _=>?_);refine go ?_;refine q_fin () (hv:=?_) (hp:=trivial);rw[metB,if_neg k1,if_neg k2,if_neg k3,if_pos k4];rfl
 rw[decide_eq_false k4];refine go ?_;by_cases k5:kd=5
 ·rw[decide_eq_true k5];refine go ?_;refine zA (zJp (grid:=grid) (cells:=cells) (set:=set)) (next:=fun y _=>?_);refine go ?_;have hrl:=zJu grid set cells 0;refine zA (zGT (zHm (b3:=y.1) (b4:=y.2.1) (b5:=y.2.2) hg hcl hset) (by omega)) (next:=fun v _=>?_);refine go ?_;refine zA (zB2 (xs:=rn grid set 0 cells) (ys:=runs) (by omega)) (next:=fun _ _=>?_);refine go ?_;refine q_fin () (hv:=?_) (hp:=trivial);rw[metB,if_neg k1,if_neg k2,if_neg k3,if_neg k4,if_pos k5];rfl
 rw[decide_eq_false k5];refine go ?_;have two:kd=6∨kd=7→∃x y:Nat,cells=[(x:Int),(y:Int)]:=fun h=>by
  have h2:=hc.two h;dsimp only at h2;match cells,h2,hcl with
  |[x,y],_,hcl=>
   have hx:=hcl.cell x (by simp);have hy:=hcl.cell y (by simp);obtain⟨x,rfl⟩:=Int.eq_ofNat_of_zero_le hx.1;obtain⟨y,rfl⟩:=Int.eq_ofNat_of_zero_le hy.1;exact⟨x,y,rfl⟩
 by_cases k6:kd=6
 ·rw[decide_eq_true k6];obtain⟨x,y,rfl⟩:=two (.inl k6);have hx:=hcl.cell x (by simp);have hy:=hcl.cell y (by simp);have hl2:1<[(x:Int),(y:Int)].length:=by simp
  refine go ?_;intro _ _ x' hx';obtain rfl:(x:Int)=x':=by simpa using hx'
  refine go ?_;intro _ _ s hs';have hss:=hg.sym s (List.mem_of_getElem? hs');have hsv:=hv.sym s (List.mem_of_getElem? hs');obtain⟨s,rfl⟩:=Int.eq_ofNat_of_zero_le hss.1;refine go ?_;intro _ _ v hv1;have hvv:=hv.val v (List.mem_of_getElem? hv1);refine go ?_;intro _ _ y' hy';obtain rfl:(y:Int)=y':=by simpa using hy'
  refine go ?_;intro _ _ u hu';have huu:=hg.sym u (List.mem_of_getElem? hu');have huv:=hv.sym u (List.mem_of_getElem? hu');obtain⟨u,rfl⟩:=Int.eq_ofNat_of_zero_le huu.1;refine go ?_;intro _ _ w hw1;have hww:=hv.val w (List.mem_of_getElem? hw1);refine go ?_;refine zA (zIJ (a:=v) (b:=w) (n:=clo) ⟨by omega,by omega⟩ ⟨by omega,by omega⟩) (next:=fun _ _=>?_);refine go ?_;refine q_fin () (hv:=?_) (hp:=trivial);have hm:metB q ⟨kd,[(x:Int),(y:Int)],set,other,clo,chi,runs,crule,cat⟩ grid=decide (clo≤max (v - w) (w - v)):=by
   rw[metB,if_neg k1,if_neg k2,if_neg k3,if_neg k4,if_neg k5,if_pos k6];show decide (clo≤max (va q.values grid (x:Int) - va q.values grid (y:Int)) (va q.values grid (y:Int) - va q.values grid (x:Int)))=_;rw[zOb hs' hv1,zOb hu' hw1]
  rw[hm];rfl
 rw[decide_eq_false k6];refine go ?_;by_cases k7:kd=7
 ·rw[decide_eq_true k7];obtain⟨x,y,rfl⟩:=two (.inr k7);have hx:=hcl.cell x (by simp);have hy:=hcl.cell y (by simp);have hl2:1<[(x:Int),(y:Int)].length:=by simp
  refine go ?_;intro _ _ x' hx';obtain rfl:(x:Int)=x':=by simpa using hx'
  refine go ?_;intro _ _ s hs';have hss:=hg.sym s (List.mem_of_getElem? hs');obtain⟨s,rfl⟩:=Int.eq_ofNat_of_zero_le hss.1;refine go ?_;intro _ _ y' hy';obtain rfl:(y:Int)=y':=by simpa using hy'
  refine go ?_;intro _ _ u hu';have huu:=hg.sym u (List.mem_of_getElem? hu');obtain⟨u,rfl⟩:=Int.eq_ofNat_of_zero_le huu.1;have hm:metB q ⟨kd,[(x:Int),(y:Int)],set,other,clo,chi,runs,crule,cat⟩ grid=!((set.testBit s&&other.testBit u)||(set.testBit u&&other.testBit s)):=by
   rw[metB,if_neg k1,if_neg k2,if_neg k3,if_neg k4,if_neg k5,if_neg k6,if_pos k7];show(!((set.testBit (sy grid (x:Int))&&other.testBit (sy grid (y:Int)))||(set.testBit (sy grid (y:Int))&&other.testBit (sy grid (x:Int)))))=_;rw[zHR hs',zHR hu']
  refine go ?_;refine zA (zCE (set:=set) (sym:=s) hset (by omega)) (next:=fun _ _=>?_);cases e1:set.testBit s with
  |true=>
   refine go ?_;refine zA (zCE (set:=other) (sym:=u) hother (by omega)) (next:=fun _ _=>?_);cases e2:other.testBit u with
   |true=>
    refine go ?_;refine q_fin () (hv:=?_) (hp:=trivial);rw[hm,e1,e2];rfl
   |false=>
    refine go ?_;refine zA (zCE (set:=set) (sym:=u) hset (by omega)) (next:=fun _ _=>?_);cases e3:set.testBit u with
    |true=>
     refine go ?_;refine zA (zCE (set:=other) (sym:=s) hother (by omega)) (next:=fun _ _=>?_);refine go ?_;refine q_fin () (hv:=?_) (hp:=trivial);rw[hm,e1,e2,e3];cases other.testBit s<;>first|rfl|(cases other.testBit u<;>rfl)
    |false=>
     refine go ?_;refine q_fin () (hv:=?_) (hp:=trivial);rw[hm,e1,e2,e3];cases other.testBit s<;>first|rfl|(cases other.testBit u<;>rfl)
  |false=>
   refine go ?_;refine zA (zCE (set:=set) (sym:=u) hset (by omega)) (next:=fun _ _=>?_);cases e3:set.testBit u with
   |true=>
    refine go ?_;refine zA (zCE (set:=other) (sym:=s) hother (by omega)) (next:=fun _ _=>?_);refine go ?_;refine q_fin () (hv:=?_) (hp:=trivial);rw[hm,e1,e3];cases other.testBit s<;>first|rfl|(cases other.testBit u<;>rfl)
   |false=>
    refine go ?_;refine q_fin () (hv:=?_) (hp:=trivial);rw[hm,e1,e3];cases other.testBit s<;>first|rfl|(cases other.testBit u<;>rfl)
 rw[decide_eq_false k7];refine go ?_;refine zA (zFY (nbs:=q.nbs) (grid:=grid) (cells:=cells) (set:=set) (loop:=decide (kd=9)) hok.graph hs.nbs hgl hg hcl hset) (next:=fun _ _=>?_);refine go ?_;refine q_fin () (hv:=?_) (hp:=trivial);rw[metB,if_neg k1,if_neg k2,if_neg k3,if_neg k4,if_neg k5,if_neg k6,if_neg k7];rfl
end Go.Proofs.YtpkieeggilkagaaGreat
namespace Go.Proofs.YtpkieeggilkagaaGreat
open Go.Ideal Gph
abbrev zRv(y:Bool×Int):Value:=.tuple ⟨[.bool y.1,.int .i64 y.2]⟩
theorem zMQ{q:zIT}{vv vn vc vg:Value}{grid:List Int}{i:Int}(hs:zJG q)(hl:grid.length<9223372036854775808):
 FnC Tryz.prog (.func 22) [.agg ⟨zBW q vv vn vc⟩,.int .i64 i,vg] [] [] [fSl intE vv q.values,fSl (slE intE) vn q.nbs,fSl consE vc q.cons,fSl intE vg grid] zRv (fun _=>[]) (fun _=>[])
  (fun y=>(¬zAK q→y=(false,191))∧(zAK q→¬Fin q.cells q.symbols grid→y=(false,200))∧(zAK q→Fin q.cells q.symbols grid→(i<0∨(q.cons.length:Int)≤i→y=(false,1))∧
    ∀(k:Nat) c,i=k→q.cons[k]? =some c→y=(metB q c grid,0))):=by
 refine zE _ (isC 22) fun B w0=>?_;have hcl:=hs.cons;refine go ?_;intro b3;refine zA (zJ2 (q:=q) hs hl) (next:=fun r hr=>?_);refine go ?_;by_cases hok:zAK q
 rotate_left
 ·have e:=hr.1 hok;subst e;refine go ?_;exact q_fin (false,191) (hv:=rfl) (hp:=⟨fun _=>rfl,fun h=>absurd h hok,fun h=>absurd h hok⟩)
 by_cases hf:Fin q.cells q.symbols grid
 rotate_left
 ·have e:=hr.2.1 hok hf;subst e;refine go ?_;exact q_fin (false,200) (hv:=rfl) (hp:=⟨fun h=>absurd hok h,fun _ _=>rfl,fun _ h=>absurd h hf⟩)
 have e:=hr.2.2 hok hf;subst e;refine go ?_;have no:(i<0∨(q.cons.length:Int)≤i)→((¬zAK q→((false,1):Bool×Int)=(false,191))∧(zAK q→¬Fin q.cells q.symbols grid→((false,1):Bool×Int)=(false,200))∧(zAK q→Fin q.cells q.symbols grid→(i<0∨(q.cons.length:Int)≤i→((false,1):Bool×Int)=(false,1))∧
  ∀(k:Nat) c,i=k→q.cons[k]? =some c→((false,1):Bool×Int)=(metB q c grid,0))):=fun h=>⟨fun h=>absurd hok h,fun _ h=>absurd hf h,fun _ _=>⟨fun _=>rfl,fun k c e hk=>by
  have:=(List.getElem?_eq_some_iff.1 hk).1;omega⟩⟩
 first|with_reducible refine g_d (fun h1=>?_) (fun h1=>?_)|with_reducible refine g_n (fun h1=>?_) (fun h1=>?_)|with_reducible refine g_b (fun h1=>?_) (fun h1=>?_)
 rotate_left
 ·refine go ?_;exact q_fin (false,1) (hv:=rfl) (hp:=no (.inl h1))
 refine go ?_;refine if_d rfl (fun h2=>?_) (fun h2=>?_)
 ·refine go ?_;exact q_fin (false,1) (hv:=rfl) (hp:=no (.inr h2))
 obtain⟨i,rfl⟩:=Int.eq_ofNat_of_zero_le (show 0≤i by omega);refine go ?_;refine zV consE (next:=fun _ _ c (y:Value×Value) hc=>?_);refine go ?_;refine zA (zJt (q:=q) (c:=c) hok hs (hok.fine c (List.mem_of_getElem? hc)) hf) (next:=fun _ _=>?_);refine go ?_;refine q_fin (metB q c grid,0) (hv:=rfl) (hp:=⟨fun h=>absurd hok h,fun _ h=>absurd hf h,fun _ _=>⟨fun h=>by omega,fun k c' e hk=>?_⟩⟩);have:k=i:=by omega
 subst this;rw[hc]at hk;cases hk;rfl
theorem zKv{b2 b3:Nat}{q:zIT}{vv vn vc vg:Value}{grid:List Int}{c:Con}(hok:zAK q)(hs:zJG q)(hc:c∈q.cons)(hf:Fin q.cells q.symbols grid):
 FnQ Tryz.prog (.func 45) [] [ptr' b2,ptr' b3] [fRaw b2 0 (zBW q vv vn vc),fRaw b3 0 [vg],fSl intE vv q.values,fSl (slE intE) vn q.nbs,fSl intE vg grid] (fun c=>metB q c grid=false) c:=by
 intro v1 v2;refine zE _ (isC 45) fun B w0=>?_;refine go ?_;intro b4;refine zA (zJt (q:=q) (c:=c) hok hs (hok.fine c hc) hf) (next:=fun _ _=>?_);refine go ?_;refine q_fin (!metB q c grid) (hv:=rfl) (hp:=?_);show(!metB q c grid)=true↔metB q c grid=false;cases metB q c grid<;>simp
open Classical in
theorem zKT{q:zIT}{vv vn vc vg:Value}{grid:List Int}(hs:zJG q)(hl:grid.length<9223372036854775808):
 FnC Tryz.prog (.func 21) [.agg ⟨zBW q vv vn vc⟩,vg] [] [] [fSl intE vv q.values,fSl (slE intE) vn q.nbs,fSl consE vc q.cons,fSl intE vg grid] zRv (fun _=>[]) (fun _=>[])
  (fun y=>(¬zAK q→y=(false,191))∧(zAK q→¬Fin q.cells q.symbols grid→y=(false,200))∧(zAK q→Fin q.cells q.symbols grid→y.2=0∧(y.1=true↔∀c∈q.cons,metB q c grid=true))):=by
 refine zE _ (isC 21) fun B w0=>?_;refine zR (E:=intE) (v:=vg) (xs:=grid) (by simp) fun a2 c2 e2=>?_;subst e2;refine go ?_;intro b2 b3;refine zK (zN (b:=b2)) (h:=?_);refine zK (zN (b:=b3)) (h:=?_);refine go ?_;refine zA (zJ2 (q:=q) hs hl) (next:=fun r hr=>?_);refine go ?_;by_cases hok:zAK q
 rotate_left
 ·have e:=hr.1 hok;subst e;refine go ?_;exact q_fin (false,191) (hv:=rfl) (hp:=⟨fun _=>rfl,fun h=>absurd h hok,fun h=>absurd h hok⟩)
 by_cases hf:Fin q.cells q.symbols grid
 rotate_left
 ·have e:=hr.2.1 hok hf;subst e;refine go ?_;exact q_fin (false,200) (hv:=rfl) (hp:=⟨fun h=>absurd hok h,fun _ _=>rfl,fun _ h=>absurd h hf⟩)
 have e:=hr.2.2 hok hf;subst e;refine go ?_;refine zA (zJ9 (xs:=q.cons) (p:=fun c=>metB q c grid=false) hs.cons (fun c hc=>zKv (b2:=b2) (b3:=b3) (vg:=.slice a2 grid.length c2) (vv:=vv) (vn:=vn) (vc:=vc) hok hs hc hf)) (next:=fun b hb=>?_);refine go ?_;refine q_fin (!b,0) (hv:=rfl) (hp:=⟨fun h=>absurd hok h,fun _ h=>absurd hf h,fun _ _=>⟨rfl,?_⟩⟩);constructor
 ·intro h c hc;cases hm:metB q c grid with
  |true=>rfl
  |false=>rw[hb.2 ⟨c,hc,hm⟩]at h;cases h
 ·intro h;cases hbb:b with
  |false=>rfl
  |true=>
   obtain⟨c,hc,hm⟩:=hb.1 hbb;rw[h c hc]at hm;cases hm
end Go.Proofs.YtpkieeggilkagaaGreat
