/-
  Kinds, puzzles and grids that are small.
-/
import Derived.Test.YtpkieeggilkagaaGreatLibO
import Derived.Test.YtpkieeggilkagaaGreatPlainC
import Derived.Test.YtpkieeggilkagaaGreatLibC
set_option linter.unusedSimpArgs false
set_option linter.unusedVariables false
set_option maxRecDepth 10000
set_option maxHeartbeats 4000000
namespace Go.Proofs.YtpkieeggilkagaaGreat
open Go.Ideal Kd Canon
structure zR8(k:Knd):Prop where
 dw:I64 k.decl.w
 dh:I64 k.decl.h
 gw:I64 k.grid.w
 gh:I64 k.grid.h
 holes:k.decl.holes.length<9223372036854775808
 syms:k.decl.symbols.length<9223372036854775808
 regs:k.decl.regions.length<9223372036854775808
 regl:∀r∈k.decl.regions,r.lists.length<9223372036854775808∧∀l∈r.lists,l.length<9223372036854775808
 clus:k.decl.clues.length<9223372036854775808
 ruls:k.decl.rules.length<9223372036854775808
 rnames:∀r∈k.decl.rules,r.names.length<9223372036854775808∧r.others.length<9223372036854775808
 gholes:k.grid.holes.length<9223372036854775808
 cells:k.grid.cells.length<9223372036854775808
 nbs:k.nbs.length<9223372036854775808∧∀l∈k.nbs,l.length<9223372036854775808
 lists:k.lists.length<9223372036854775808∧∀l∈k.lists,l.length<9223372036854775808∧∀m∈l,m.length<9223372036854775808
structure zUD(k:Knd):Prop where
 cells:k.grid.cells.length≤16
 gholes:k.grid.holes.length≤256
 nbs:k.nbs.length≤20
 lists:k.lists.length≤12
 syms:k.decl.symbols.length≤6
 regs:k.decl.regions.length≤6
 clus:k.decl.clues.length≤6
 ruls:k.decl.rules.length≤10
 holes:k.decl.holes.length≤256
 each:∀l∈k.lists,l.length≤40
 reg:∀r∈k.decl.regions,r.lists.length≤20
theorem zHH.of{k:Knd}(hB:zR8 k)(hF:zUD k):zHH k:=by
 have f1:=hF.cells;have f2:=hF.gholes;have f5:=hF.syms;have f6:=hF.regs;have f7:=hF.clus;have f8:=hF.ruls;have f9:=hF.holes;exact⟨⟨⟨by omega,by omega,by omega,by omega,hB.rnames,hB.holes,hB.regl⟩,hB.dw,hB.dh,by omega⟩,⟨hB.gw,hB.gh,by omega,by omega⟩,hB.nbs,hB.lists⟩
theorem zQj{k:Knd}{vh vs vr vc vu gh gc vn vl:Value}(hB:zR8 k):FnC Tryz.prog (.func 33) [.agg ⟨zFl k vh vs vr vc vu gh gc vn vl⟩] [] [] (zEs k vh vs vr vc vu gh gc vn vl []) (fun b:Bool=>.bool b) (fun _=>[]) (fun _=>[]) (fun b=>b=true→zUD k):=by
 refine zE _ (isC 33) fun B w0=>?_;dsimp only[zEs];refine go ?_;intro b1;refine go ?_;first|with_reducible refine g_d (fun h1=>?_) (fun h1=>?_)|with_reducible refine g_n (fun h1=>?_) (fun h1=>?_)|with_reducible refine g_b (fun h1=>?_) (fun h1=>?_)
 rotate_left
 ·refine go ?_;exact q_fin false (hv:=rfl) (hp:=fun h=>by cases h)
 refine go ?_;first|with_reducible refine g_d (fun h2=>?_) (fun h2=>?_)|with_reducible refine g_n (fun h2=>?_) (fun h2=>?_)|with_reducible refine g_b (fun h2=>?_) (fun h2=>?_)
 rotate_left
 ·refine go ?_;exact q_fin false (hv:=rfl) (hp:=fun h=>by cases h)
 refine go ?_;first|with_reducible refine g_d (fun h3=>?_) (fun h3=>?_)|with_reducible refine g_n (fun h3=>?_) (fun h3=>?_)|with_reducible refine g_b (fun h3=>?_) (fun h3=>?_)
 rotate_left
 ·refine go ?_;exact q_fin false (hv:=rfl) (hp:=fun h=>by cases h)
 refine go ?_;first|with_reducible refine g_d (fun h4=>?_) (fun h4=>?_)|with_reducible refine g_n (fun h4=>?_) (fun h4=>?_)|with_reducible refine g_b (fun h4=>?_) (fun h4=>?_)
 rotate_left
 ·refine go ?_;exact q_fin false (hv:=rfl) (hp:=fun h=>by cases h)
 refine go ?_;first|with_reducible refine g_d (fun h5=>?_) (fun h5=>?_)|with_reducible refine g_n (fun h5=>?_) (fun h5=>?_)|with_reducible refine g_b (fun h5=>?_) (fun h5=>?_)
 rotate_left
 ·refine go ?_;exact q_fin false (hv:=rfl) (hp:=fun h=>by cases h)
 refine go ?_;first|with_reducible refine g_d (fun h6=>?_) (fun h6=>?_)|with_reducible refine g_n (fun h6=>?_) (fun h6=>?_)|with_reducible refine g_b (fun h6=>?_) (fun h6=>?_)
 rotate_left
 ·refine go ?_;exact q_fin false (hv:=rfl) (hp:=fun h=>by cases h)
 refine go ?_;first|with_reducible refine g_d (fun h7=>?_) (fun h7=>?_)|with_reducible refine g_n (fun h7=>?_) (fun h7=>?_)|with_reducible refine g_b (fun h7=>?_) (fun h7=>?_)
 rotate_left
 ·refine go ?_;exact q_fin false (hv:=rfl) (hp:=fun h=>by cases h)
 refine go ?_;first|with_reducible refine g_d (fun h8=>?_) (fun h8=>?_)|with_reducible refine g_n (fun h8=>?_) (fun h8=>?_)|with_reducible refine g_b (fun h8=>?_) (fun h8=>?_)
 rotate_left
 ·refine go ?_;exact q_fin false (hv:=rfl) (hp:=fun h=>by cases h)
 refine go ?_;refine if_d rfl (fun h9=>?_) (fun h9=>?_)
 ·refine go ?_;exact q_fin false (hv:=rfl) (hp:=fun h=>by cases h)
 refine go ?_;refine zH (fun j:Nat=>k.lists.length - j) (fun j=>[(3,.int .i64 (j:Int))]) (fun _=>[]) (fun _=>[]) (fun j=>j≤k.lists.length∧∀l∈k.lists.take j,l.length≤40) 0 ⟨Nat.zero_le _,by simp⟩ (body:=?_);rintro j ⟨hj,hall⟩;refine go ?_;refine if_d rfl (fun a1=>?_) (fun a1=>?_)
 ·refine go ?_;refine zV (slE (slE intE)) (xs:=k.lists) (next:=fun _ _ l (vl2:Value) hl=>?_);refine go ?_;refine if_d rfl (fun a2=>?_) (fun a2=>?_)
  ·refine go ?_;exact q_fin false (hv:=rfl) (hp:=fun h=>by cases h)
  ·refine go ?_;refine zB (j+1) (by show k.lists.length - (j+1)<k.lists.length - j;omega) ⟨by omega,?_⟩;rw[zP hl];intro x hx;rcases List.mem_append.1 hx with hx|hx
   ·exact hall x hx
   ·rw[List.mem_singleton.1 hx];omega
 have hje:j=k.lists.length:=by omega
 subst hje;rw[List.take_length]at hall;refine go ?_;refine zH (fun j:Nat=>k.decl.regions.length - j) (fun j=>[(4,.int .i64 (j:Int))]) (fun _=>[]) (fun _=>[]) (fun j=>j≤k.decl.regions.length∧∀r∈k.decl.regions.take j,r.lists.length≤20) 0 ⟨Nat.zero_le _,by simp⟩ (body:=?_);rintro j ⟨hj,hall2⟩;refine go ?_;refine if_d rfl (fun a1=>?_) (fun a1=>?_)
 ·have hr:k.decl.regions[j]? =some (k.decl.regions[j]'(by omega)):=List.getElem?_eq_getElem _;generalize k.decl.regions[j]'(by omega)=r at hr;refine go ?_;refine zV zEk (xs:=k.decl.regions) (next:=fun _ _ r2 (vl2:Value) hr2=>?_);rw[hr]at hr2;obtain rfl:r=r2:=Option.some.inj hr2;refine go ?_;refine if_d rfl (fun a2=>?_) (fun a2=>?_)
  ·refine go ?_;exact q_fin false (hv:=rfl) (hp:=fun h=>by cases h)
  ·refine go ?_;refine zB (j+1) (by show k.decl.regions.length - (j+1)<k.decl.regions.length - j;omega) ⟨by omega,?_⟩;rw[zP hr];intro x hx;rcases List.mem_append.1 hx with hx|hx
   ·exact hall2 x hx
   ·rw[List.mem_singleton.1 hx];omega
 have hje:j=k.decl.regions.length:=by omega
 subst hje;rw[List.take_length]at hall2;refine go ?_;exact q_fin true (hv:=rfl) (hp:=fun _=>⟨by omega,by omega,by omega,by omega,by omega,by omega,by omega,by omega,by omega,hall,hall2⟩)
theorem zJl{k:Knd}{p:List zm}{grid:List Int}{vh vs vr vc vu gh gc vn vl vp vg:Value}(hB:zR8 k):
 FnC Tryz.prog (.func 12) [.agg ⟨zFl k vh vs vr vc vu gh gc vn vl⟩,.agg ⟨[vp]⟩,vg] [] [] (fSl gvnE vp p::fSl intE vg grid::zEs k vh vs vr vc vu gh gc vn vl []) (fun b:Bool=>.bool b) (fun _=>[]) (fun _=>[]) (fun b=>b=true→zUD k∧p.length≤60∧grid.length≤20):=by
 refine zE _ (isC 12) fun B w0=>?_;dsimp only[zEs];refine go ?_;intro b3 b4;refine go ?_;refine zA (zQj (k:=k) (vh:=vh) (vs:=vs) (vr:=vr) (vc:=vc) (vu:=vu) (gh:=gh) (gc:=gc) (vn:=vn) (vl:=vl) hB) (next:=fun b hb=>?_);cases b with
 |false=>
  refine go ?_;exact q_fin false (hv:=rfl) (hp:=fun h=>by cases h)
 |true=>
 have hk:=hb rfl;refine go ?_;first|with_reducible refine g_d (fun h1=>?_) (fun h1=>?_)|with_reducible refine g_n (fun h1=>?_) (fun h1=>?_)|with_reducible refine g_b (fun h1=>?_) (fun h1=>?_)
 ·refine go ?_;exact q_fin false (hv:=rfl) (hp:=fun h=>by cases h)
 refine go ?_;refine q_fin (decide ((grid.length:Int)≤20)) (hv:=rfl) (hp:=fun h=>?_);have h:=of_decide_eq_true h;exact⟨hk,by omega,by omega⟩
end Go.Proofs.YtpkieeggilkagaaGreat
namespace Go.Proofs.YtpkieeggilkagaaGreat
open Go.Ideal Kd Canon
theorem zJc{k:Int}(h:(shpOf k).read=true):1≤k∧k≤11:=by
 apply Classical.byContradiction;intro hn;have hc:(k<0∨14≤k)∨k=0∨k=12∨k=13:=by omega
 rcases hc with hc|rfl|rfl|rfl
 ·rw[zDi hc]at h;cases h
 ·cases h
 ·cases h
 ·cases h
theorem zJ0{syms:List ByteArray}(hs:syms.length≤16):∀(l:List ByteArray),(∀s∈l,s∈syms)→setN syms l<2^16:=by
 have h:∀(l:List ByteArray) (m:Nat),m<2^16→(∀s∈l,s∈syms)→l.foldl (fun m s=>m|||1<<<posn s syms) m<2^16:=by
  intro l;induction l with
  |nil=>intro m hm _;exact hm
  |cons s l ih=>
   intro m hm hl;rw[List.foldl_cons];refine ih _ (Nat.or_lt_two_pow hm ?_) (fun t ht=>hl t (List.mem_cons_of_mem _ ht));have:=zCR (hl s (List.mem_cons_self ..));rw[Nat.one_shiftLeft];exact Nat.pow_lt_pow_right (by omega) (by omega)
 intro l hl;exact h l 0 (by decide) hl
theorem zO.rul{k:Knd}(h:zO k){r:Rul}(hr:r∈k.decl.rules):∃q∈k.decl.rules,r=zMI (zBv k.decl) (zBR k.decl) (zEd k.decl) q:=by
 have h1:r∈(Kd.rslv k.decl).rules:=by rw[← h.decl];exact hr
 obtain⟨q,hq,e⟩:=List.mem_map.1 (show r∈k.decl.rules.map (zMI (zBv k.decl) (zBR k.decl) (zEd k.decl))from h1);exact⟨q,hq,e.symm⟩
theorem zO.llen{k:Knd}(h:zO k):k.lists.length=8+k.decl.regions.length:=by
 rw[h.lists];unfold listsOf;rw[List.length_append,List.length_map,List.length_map,List.length_range]
theorem zO.gok{k:Knd}(h:zO k):zAB (zI k.decl):=⟨h.typ.mke,rfl⟩
theorem zO.inr{k:Knd}(h:zO k){r:Rul}(hr:r∈k.decl.rules):zNo k r:=by
 obtain⟨q,hq,rfl⟩:=h.rul hr;have hro:=h.b.rs.rul q hq;have hl:=h.llen;have hfl:(zBR k.decl).length=8+k.decl.regions.length:=by
  unfold zBR;rw[List.length_append,List.length_map];rfl
 refine⟨?_,?_⟩
 ·show 0≤(if q.on=⟨⟨[]⟩⟩then(0:Int)else(posn q.on (zBR k.decl):Int))∧(if q.on=⟨⟨[]⟩⟩then(0:Int)else(posn q.on (zBR k.decl):Int))<_;by_cases e:q.on=⟨⟨[]⟩⟩
  ·rw[if_pos e];omega
  ·rw[if_neg e];have:=zCR (hro.on.resolve_left e);omega
 ·show(if q.by_=⟨⟨[]⟩⟩then(-1:Int)else(posn q.by_ (zEd k.decl):Int))<_;by_cases e:q.by_=⟨⟨[]⟩⟩
  ·rw[if_pos e];omega
  ·rw[if_neg e];have h1:=zCR (hro.by_.resolve_left e);have h2:(zEd k.decl).length=k.decl.clues.length:=by unfold zEd;rw[List.length_map]
   omega
theorem zSP{k:Knd}{p:List zm}{r:Rul}(hr:zNo k r)(hp:∀g∈p,zCL k g){x:List Int×List Int}(hx:x∈rlsOf k p r):∃l∈k.lists,x.1∈l:=by
 unfold rlsOf at hx;obtain⟨hf0,hf1⟩:=hr.fam;split at hx
 ·have hl:k.lists[r.family.toNat]? =some (k.lists[r.family.toNat]'(by omega)):=List.getElem?_eq_getElem _;rw[zAl hl]at hx;obtain⟨l,hl2,rfl⟩:=List.mem_map.1 hx;exact⟨_,List.getElem_mem _,hl2⟩
 ·obtain⟨g,hg,rfl⟩:=List.mem_map.1 hx;obtain⟨c,l,ps,h1,h2,h3,_,_,_,h4⟩:=(hp g (List.mem_filter.1 hg).1).cells;exact⟨l,List.mem_of_getElem? h2,by rw[h4];exact List.mem_of_getElem? h3⟩
theorem zTD{k:Knd}{p:List zm}{grid:List Int}(hS:zHH k)(hP:zLH p)(hgl:grid.length≤1000000):zQy k p grid:=by
 intro hK hFin hQ r hr;have hty:=hK.typ;have hgo:=hK.gok;have hin:=hK.inr hr;obtain⟨q,hq,hre⟩:=hK.rul hr;have hro:=hK.b.rs.rul q hq;have hrx:=hty.form.ruls r hr;have hsl:=hty.lim.s1;have hkd:1≤r.kind∧r.kind≤11:=by
  refine zJc ?_;have:=hty.read;unfold zBP at this;rw[List.filterMap_eq_nil_iff]at this;obtain⟨j,hj⟩:=List.getElem?_of_mem hr;have:=this (r,j) (List.mk_mem_zipIdx_iff_getElem?.2 hj);cases h:(shpOf r.kind).read with
  |true=>rfl
  |false=>simp[h]at this
 have hgc:k.grid.cells.length=(zI k.decl).cells.length:=by rw[hK.grid]
 obtain⟨hf1,hf2⟩:=hFin;have hlin:∀l∈k.lists,∀ps∈l,InN (zI k.decl).cells.length ps:=by
  rw[hK.lists];exact zF4 hgo (fun r hr=>(hty.rgn r hr).1.2)
 have hxin:∀x∈rlsOf k p r,InN (zI k.decl).cells.length x.1:=fun x hx=>by
  obtain⟨l,hl,hxl⟩:=zSP hin hQ.right hx;exact hlin l hl _ hxl
 have hset1:r.set=((setN (zBv k.decl) q.names:Nat):Int):=by rw[hre];rfl
 have hset2:r.other=((setN (zBv k.decl) q.others:Nat):Int):=by rw[hre];rfl
 have hsn:(zBv k.decl).length≤16:=by unfold zBv;rw[List.length_map];exact hsl
 have hl1:=zJ0 hsn q.names hro.names;have hl2:=zJ0 hsn q.others hro.others;have hneed:∀need:Int,need≠0→(∀n2:Int,n2=(if(shpOf r.kind).op=true∧r.by_≠zAp then 2 else(shpOf r.kind).clue)→n2=0∨n2=need)→0≤r.clue→∃c,k.decl.clues[r.clue.toNat]? =some c∧c.type=need:=by
  intro need hn h2 hc;rcases hrx.clu _ rfl with⟨a1,_,a2⟩|⟨a1,_,_,c,a2,a3,_⟩
  ·omega
  ·rcases h2 _ rfl with h|h
   ·exact absurd h a1
   ·exact⟨c,a2,by rw[a3];exact h⟩
 have htype:r.kind=2∨r.kind=3∨r.kind=11→0≤r.clue→∃c,k.decl.clues[r.clue.toNat]? =some c∧(c.type=1∨c.type=2):=by
  intro h hc;rcases h with h|h|h
  ·obtain⟨c,h1,h2⟩:=hneed 2 (by omega) (fun n2 hn2=>by rw[h]at hn2;rw[hn2];split;exact .inr rfl;exact .inl rfl) hc;exact⟨c,h1,.inr h2⟩
  ·obtain⟨c,h1,h2⟩:=hneed 2 (by omega) (fun n2 hn2=>by rw[h]at hn2;rw[hn2];split;exact .inr rfl;exact .inl rfl) hc;exact⟨c,h1,.inr h2⟩
  ·obtain⟨c,h1,h2⟩:=hneed 1 (by omega) (fun n2 hn2=>by
    rw[h]at hn2;have e:(shpOf 11).op=false:=rfl;rw[e,if_neg (by simp)]at hn2;exact .inr hn2) hc
   exact⟨c,h1,.inl h2⟩
 refine⟨hS,hP,hK.fam,hin,hQ.right,⟨hgl,fun x hx=>?_⟩,fun x hx=>⟨?_,fun c hc=>?_⟩,⟨fun v hv=>?_,fun x hx=>?_⟩,?_,?_,⟨by rw[hset1];omega,by rw[hset1];omega⟩,⟨by rw[hset2];omega,by rw[hset2];omega⟩,hkd,fun hk x hx=>?_,fun x hx=>(hxin x hx).1,fun hk x hx=>?_⟩
 ·have:=hf2 x hx;omega
 ·have:=(hxin x hx).1;omega
 ·have:=(hxin x hx).2 c hc;omega
 ·obtain⟨s,hs,rfl⟩:=List.mem_map.1 hv;exact hty.form.syms s hs
 ·have:=hf2 x hx;have:(zh k).length=k.decl.symbols.length:=by unfold zh;rw[List.length_map]
  omega
 ·rw[hK.nbs];refine⟨by rw[zAZ];exact hgo.len,fun i l hl j n hn=>?_⟩;exact zDO hgo i l hl j n hn
 ·rw[hK.nbs,zAZ];omega
 ·unfold rlsOf at hx;by_cases hc:r.clue<0
  ·rw[if_pos hc]at hx;obtain⟨l,_,rfl⟩:=List.mem_map.1 hx;simp
  ·rw[if_neg hc]at hx;obtain⟨g,hg,rfl⟩:=List.mem_map.1 hx;obtain⟨hg1,hg2⟩:=List.mem_filter.1 hg;have hg2:=of_decide_eq_true hg2;obtain⟨c,h1,h2⟩:=htype hk (by omega);obtain⟨c',l,_,b1,_,_,_,b2⟩:=hQ.right g hg1;rw[hg2,h1]at b1;cases b1;show 0<g.values.length;rcases b2 with b2|b2|b2
   ·omega
   ·omega
   ·rcases h2 with h2|h2
    ·exact absurd h2 b2.1
    ·exact absurd h2 b2.2.1
 ·have hc:0≤r.clue:=by
   rcases hrx.clu _ rfl with⟨a1,_,_⟩|⟨_,a,_⟩
   ·rw[hk]at a1;have e:(shpOf 11).op=false:=rfl;rw[e,if_neg (by simp)]at a1;cases a1
   ·exact a
  obtain⟨c,h1,h2⟩:=hneed 1 (by omega) (fun n2 hn2=>by
   rw[hk]at hn2;have e:(shpOf 11).op=false:=rfl;rw[e,if_neg (by simp)]at hn2;exact .inr hn2) hc
  have hcp:=(hty.form.clus _ c h1).2;have hfam:c.family=0:=by unfold CluP at hcp;omega
  unfold rlsOf at hx;rw[if_neg (by omega)]at hx;obtain⟨g,hg,rfl⟩:=List.mem_map.1 hx;obtain⟨hg1,hg2⟩:=List.mem_filter.1 hg;have hg2:=of_decide_eq_true hg2;obtain⟨c',l,ps,b1,b2,b3,_,_,_,b4⟩:=(hQ.right g hg1).cells;rw[hg2,h1]at b1;cases b1;rw[hfam,hK.lists]at b2;have hl0:(listsOf k.decl)[(0:Int).toNat]? =some (famOf (zI k.decl) 0):=rfl;rw[hl0]at b2;cases b2;show 0<(cellsAt k g).length;rw[b4];have hps:=List.mem_of_getElem? b3;have:famOf (zI k.decl) 0=zGM (zI k.decl).cells.length:=by simp[famOf]
  rw[this]at hps;unfold zGM at hps;obtain⟨i,_,rfl⟩:=List.mem_map.1 hps;simp
end Go.Proofs.YtpkieeggilkagaaGreat
namespace Go.Proofs.YtpkieeggilkagaaGreat
open Go.Ideal Kd Canon
structure zTP(k:Knd)(p:List zm)(grid:List Int)(i:Int)(y:Bool×Int):Prop where
 nk:¬zO k→y=(false,180)
 nf:zO k→¬zG5 k grid→y=(false,200)
 np:zO k→zG5 k grid→¬zAM k p→y=(false,190)
 na:zO k→zG5 k grid→zAM k p→(i<0∨(k.decl.rules.length:Int)≤i)→y=(false,1)
 ok:zO k→zG5 k grid→zAM k p→∀(n:Nat) r,i=(n:Int)→k.decl.rules[n]? =some r→y=(holdsR k p grid r,0)
theorem zPt{k:Knd}{p:List zm}{grid:List Int}{i:Int}{vh vs vr vc vu gh gc vn vl vp vg:Value}(hS:zHH k)(hP:zLH p)(hl:grid.length<9223372036854775808)(hA:zQy k p grid):
 FnC Tryz.prog (.func 13) [.agg ⟨zFl k vh vs vr vc vu gh gc vn vl⟩,.agg ⟨[vp]⟩,vg,.int .i64 i] [] [] (fSl gvnE vp p::fSl intE vg grid::zEs k vh vs vr vc vu gh gc vn vl []) zRv (fun _=>[]) (fun _=>[]) (zTP k p grid i):=by
 have hul:=hS.d.s.ruls;refine zE _ (isC 13) fun B w0=>?_;dsimp only[zEs];refine go ?_;intro b4 b5;refine go ?_;refine zA (zMp (k:=k) (p:=p) (grid:=grid) (vh:=vh) (vs:=vs) (vr:=vr) (vc:=vc) (vu:=vu) (gh:=gh) (gc:=gc) (vn:=vn) (vl:=vl) hS hP hl) (next:=fun e he=>?_);refine go ?_;refine if_d rfl (fun hne=>?_) (fun hz=>?_)
 ·refine go ?_;have e0:∀n:Int,e=n→(false,e)=(false,n):=fun n h=>by rw[h]
  exact q_fin (false,e) (hv:=rfl) (hp:=⟨fun h=>e0 _ (he.nk h),fun h1 h2=>e0 _ (he.nf h1 h2),fun h1 h2 h3=>e0 _ (he.np h1 h2 h3),fun h1 h2 h3=>absurd (he.ok h1 h2 h3) hne,fun h1 h2 h3=>absurd (he.ok h1 h2 h3) hne⟩)
 have hz:e=0:=Decidable.not_not.1 hz;subst hz;have hK:zO k:=Classical.byContradiction fun h=>by have:=he.nk h;omega
 have hF:zG5 k grid:=Classical.byContradiction fun h=>by have:=he.nf hK h;omega
 have hQ:zAM k p:=Classical.byContradiction fun h=>by have:=he.np hK hF h;omega
 have hask:=hA hK hF hQ;have hno:(i<0∨(k.decl.rules.length:Int)≤i)→zTP k p grid i (false,1):=fun h=>⟨fun h=>absurd hK h,fun _ h=>absurd hF h,fun _ _ h=>absurd hQ h,fun _ _ _ _=>rfl,fun _ _ _ n r e hr=>by
  have:=(List.getElem?_eq_some_iff.1 hr).1;omega⟩
 refine go ?_;first|with_reducible refine g_d (fun h1=>?_) (fun h1=>?_)|with_reducible refine g_n (fun h1=>?_) (fun h1=>?_)|with_reducible refine g_b (fun h1=>?_) (fun h1=>?_)
 rotate_left
 ·refine go ?_;exact q_fin (false,1) (hv:=rfl) (hp:=hno (.inl h1))
 refine go ?_;refine if_d rfl (fun h2=>?_) (fun h2=>?_)
 ·refine go ?_;exact q_fin (false,1) (hv:=rfl) (hp:=hno (.inr h2))
 obtain⟨i,rfl⟩:=Int.eq_ofNat_of_zero_le (show 0≤i by omega);refine go ?_;refine zV zn (xs:=k.decl.rules) (next:=fun _ _ r (w:Value×Value) hr=>?_);have hrH:=hask r (List.mem_of_getElem? hr);refine go ?_;refine zA (look_ok (p:=p) (k:=k) (grid:=grid) (vh:=vh) (vs:=vs) (vr:=vr) (vc:=vc) (vu:=vu) (gh:=gh) (gc:=gc) (vn:=vn) (vl:=vl) (vp:=vp) hS.d.s.syms) (next:=fun vv _=>?_);refine go ?_;refine zA (zKH (k:=k) (p:=p) (grid:=grid) (r:=r) (vh:=vh) (vs:=vs) (vr:=vr) (vc:=vc) (vu:=vu) (gh:=gh) (gc:=gc) (vn:=vn) (vl:=vl) (vp:=vp) (vg:=vg) (vv:=vv) (v1:=w.1) (v2:=w.2) hrH) (next:=fun _ _=>?_);refine go ?_;exact q_fin (holdsR k p grid r,0) (hv:=rfl) (hp:=⟨fun h=>absurd hK h,fun _ h=>absurd hF h,fun _ _ h=>absurd hQ h,fun _ _ _ h=>by omega,fun _ _ _ n r' e hr'=>by
  have:n=i:=by omega
  subst this;rw[hr]at hr';cases hr';rfl⟩)
end Go.Proofs.YtpkieeggilkagaaGreat
