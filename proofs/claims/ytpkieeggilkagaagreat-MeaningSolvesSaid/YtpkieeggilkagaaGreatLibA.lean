/-
  What rules mean for lists of cells: sets of symbols, counts, sums, differences, rises, runs.
-/
import Derived.Test.YtpkieeggilkagaaGreatIdealL
import Derived.Test.YtpkieeggilkagaaGreatIdealK
import Derived.Test.YtpkieeggilkagaaGreatProg
set_option linter.unusedSimpArgs false
set_option linter.unusedVariables false
set_option maxRecDepth 10000
set_option maxHeartbeats 1000000
namespace Go.Proofs.YtpkieeggilkagaaGreat
open Go.Ideal
noncomputable def zGb:=cod Tryz.prog 130
theorem f_appSeq:enF Tryz.prog 130=some zGb:=by kernel_rfl
noncomputable def zFX:=cod Tryz.prog 74
theorem f_collect:enF Tryz.prog 74=some zFX:=by kernel_rfl
theorem zSV(m n:Nat):decide (((m>>>n&&&1:Nat):Int)=1)=m.testBit n:=by
 rw[Nat.testBit,Nat.and_comm,Nat.one_and_eq_mod_two];have:m>>>n%2=0∨m>>>n%2=1:=by omega
 rcases this with h|h<;>simp[h]
theorem zCE{set sym:Nat}(hs:set<9223372036854775808)(hb:sym<64):FnP Tryz.prog 84 [.int .i64 (set:Int),.int .i64 (sym:Int)] [] (.bool (set.testBit sym)):=by
 refine zE _ (isC 84) fun B w0=>?_;refine go ?_;refine(d_p rfl rfl (zTy rfl rfl hb)).h ?_;refine(d_p rfl rfl (zUE (b:=1) rfl rfl (Nat.lt_of_le_of_lt (Nat.shiftRight_le _ _) hs) (by omega))).h ?_;refine go ?_;refine q_fin () (hv:=?_) (hp:=trivial);rw[← zSV];rfl
structure zDJ(grid:List Int):Prop where
 len:grid.length≤1000000
 sym:∀x∈grid,0≤x∧x<16
structure zCA(grid cells:List Int):Prop where
 len:cells.length≤1000000
 cell:∀c∈cells,0≤c∧c<grid.length
def sy(grid:List Int)(c:Int):Nat:=(grid.getD c.toNat 0).toNat
def cnt(grid:List Int)(set:Nat)(cells:List Int):Nat:=(cells.filter fun c=>set.testBit (sy grid c)).length
theorem zr{α:Type}{xs:List α}{k:Nat}{x:α}(h:xs[k]? =some x):xs.take (k+1)=xs.take k++[x]:=by
 rw[List.take_add_one,h];rfl
theorem zHR{grid:List Int}{c:Nat}{s:Nat}(h:grid[c]? =some (s:Int)):sy grid (c:Int)=s:=by
 simp[sy,List.getD,h]
theorem zHi{vg vc:Value}{grid cells:List Int}{set:Nat}(hg:zDJ grid)(hc:zCA grid cells)(hs:set<9223372036854775808):
 FnP Tryz.prog 64 [vg,vc,.int .i64 (set:Int)] [fSl intE vg grid,fSl intE vc cells] (.int .i64 (cnt grid set cells:Int)):=by
 refine zE _ (isC 64) fun B w0=>?_;have hcl:=hc.len;refine go ?_;refine zH (fun k=>cells.length - k) (fun k:Nat=>[(11,.int .i64 (k:Int)),(6,.int .i64 (cnt grid set (cells.take k):Int))]) (fun _=>[]) (fun _=>[]) (fun k=>k≤cells.length∧cnt grid set (cells.take k)≤k) 0 ⟨by omega,by simp[cnt]⟩ (body:=?_);rintro k ⟨hk,hn⟩;refine go ?_;refine if_d rfl (fun h1=>?_) (fun h1=>?_)
 ·refine go ?_;intro _ _ c hck;have hcc:=hc.cell c (List.mem_of_getElem? hck);obtain⟨c,rfl⟩:=Int.eq_ofNat_of_zero_le hcc.1;refine go ?_;intro _ _ x hx;have hxx:=hg.sym x (List.mem_of_getElem? hx);obtain⟨x,rfl⟩:=Int.eq_ofNat_of_zero_le hxx.1;refine zA (zCE (set:=set) (sym:=x) hs (by omega)) (next:=fun _ _=>?_);refine go ?_;have hstep:cnt grid set (cells.take (k+1))=cnt grid set (cells.take k)+if set.testBit x then 1 else 0:=by
   rw[cnt,zr hck,List.filter_append,List.length_append,← cnt];congr 1;simp only[List.filter_cons,List.filter_nil,zHR hx];split<;>rfl
  refine if_b rfl (fun h2=>?_) (fun h2=>?_)
  ·rw[if_pos h2]at hstep;refine go ?_;exact zB (k+1) (by omega) ⟨by omega,by omega⟩ (hl:=⟨rfl,by rw[hstep];rfl,by repeat (first|exact trivial|refine⟨rfl,?_⟩)⟩)
  ·rw[if_neg (by rw[h2];simp)]at hstep;refine go ?_;exact zB (k+1) (by omega) ⟨by omega,by omega⟩ (hl:=⟨rfl,by rw[hstep];rfl,by repeat (first|exact trivial|refine⟨rfl,?_⟩)⟩)
 refine go ?_;have:k=cells.length:=by omega
 subst this;refine q_fin () (hv:=?_) (hp:=trivial);rw[List.take_length];rfl
structure zJg(values grid:List Int):Prop where
 val:∀v∈values,0≤v∧v≤99
 sym:∀x∈grid,x<values.length
def va(values grid:List Int)(c:Int):Int:=values.getD (sy grid c) 0
def smm(values grid cells:List Int):Int:=(cells.map (va values grid)).sum
theorem zOb{values grid:List Int}{c s:Nat}{v:Int}(h:grid[c]? =some (s:Int))(h2:values[s]? =some v):va values grid (c:Int)=v:=by
 simp[va,zHR h,List.getD,h2]
theorem zMG{vv vg vc:Value}{values grid cells:List Int}(hg:zDJ grid)(hc:zCA grid cells)(hv:zJg values grid):
 FnP Tryz.prog 67 [vv,vg,vc] [fSl intE vv values,fSl intE vg grid,fSl intE vc cells] (.int .i64 (smm values grid cells)):=by
 refine zE _ (isC 67) fun B w0=>?_;have hcl:=hc.len;refine go ?_;refine zH (fun k=>cells.length - k) (fun k:Nat=>[(11,.int .i64 (k:Int)),(6,.int .i64 (smm values grid (cells.take k)))]) (fun _=>[]) (fun _=>[]) (fun k=>k≤cells.length∧0≤smm values grid (cells.take k)∧smm values grid (cells.take k)≤99*k) 0 ⟨by omega,by simp[smm],by simp[smm]⟩ (body:=?_);rintro k ⟨hk,hn0,hn⟩;refine go ?_;refine if_d rfl (fun h1=>?_) (fun h1=>?_)
 ·refine go ?_;intro _ _ c hck;have hcc:=hc.cell c (List.mem_of_getElem? hck);obtain⟨c,rfl⟩:=Int.eq_ofNat_of_zero_le hcc.1;refine go ?_;intro _ _ x hx;have hxx:=hg.sym x (List.mem_of_getElem? hx);have hxv:=hv.sym x (List.mem_of_getElem? hx);obtain⟨x,rfl⟩:=Int.eq_ofNat_of_zero_le hxx.1;refine go ?_;intro _ _ v hvx;have hvv:=hv.val v (List.mem_of_getElem? hvx);have hstep:smm values grid (cells.take (k+1))=smm values grid (cells.take k)+v:=by
   rw[smm,zr hck,List.map_append,List.sum_append,← smm];simp[zOb hx hvx]
  refine go ?_;exact zB (k+1) (by omega) ⟨by omega,by omega,by omega⟩ (hl:=⟨rfl,by rw[hstep];rfl,by repeat (first|exact trivial|refine⟨rfl,?_⟩)⟩)
 refine go ?_;have:k=cells.length:=by omega
 subst this;refine q_fin () (hv:=?_) (hp:=trivial);rw[List.take_length];rfl
def dif(grid cells:List Int):Bool:=decide (cells.map (sy grid)).Nodup
def met(grid cells:List Int):Nat:=cells.foldl (fun m c=>m|||1<<<sy grid c) 0
theorem zL9(grid:List Int):∀(cells:List Int) (m s:Nat),(cells.foldl (fun m c=>m|||1<<<sy grid c) m).testBit s=(m.testBit s||decide (s∈cells.map (sy grid)))
 |[],m,s=>by simp
 |c::cells,m,s=>by
  rw[List.foldl_cons,zL9 grid cells,Nat.testBit_or];have:(1<<<sy grid c).testBit s=decide (s=sy grid c):=by
   rw[Nat.testBit_shiftLeft];by_cases h:s=sy grid c
   ·subst h;simp
   ·by_cases h2:sy grid c≤s
    ·have:s - sy grid c≠0:=by omega
     have h3:(1:Nat).testBit (s - sy grid c)=false:=Nat.testBit_lt_two_pow (Nat.one_lt_two_pow this);simp[h,h2,h3]
    ·simp[h,h2]
  rw[this,Bool.or_assoc];congr 1;simp only[List.map_cons,List.mem_cons,Bool.decide_or]
theorem zJM{vg vc:Value}{grid cells:List Int}(hg:zDJ grid)(hc:zCA grid cells):
 FnP Tryz.prog 60 [vg,vc] [fSl intE vg grid,fSl intE vc cells] (.bool (dif grid cells)):=by
 refine zE _ (isC 60) fun B w0=>?_;have hcl:=hc.len;refine go ?_;refine zH (fun k=>cells.length - k) (fun k:Nat=>[(10,.int .i64 (k:Int)),(5,.int .i64 (met grid (cells.take k):Int))]) (fun _=>[]) (fun _=>[]) (fun k=>k≤cells.length∧met grid (cells.take k)<2^16∧((cells.take k).map (sy grid)).Nodup) 0 ⟨by omega,by simp[met],by simp⟩ (body:=?_);rintro k ⟨hk,hm,hnd⟩;refine go ?_;refine if_d rfl (fun h1=>?_) (fun h1=>?_)
 ·refine go ?_;intro _ _ c hck;have hcc:=hc.cell c (List.mem_of_getElem? hck);obtain⟨c,rfl⟩:=Int.eq_ofNat_of_zero_le hcc.1;refine go ?_;intro _ _ x hx;have hxx:=hg.sym x (List.mem_of_getElem? hx);obtain⟨x,rfl⟩:=Int.eq_ofNat_of_zero_le hxx.1;refine zA (zCE (set:=met grid (cells.take k)) (sym:=x) (by omega) (by omega)) (next:=fun _ _=>?_);have hbit:(met grid (cells.take k)).testBit x=decide (x∈(cells.take k).map (sy grid)):=by rw[met,zL9];simp
  have hmap:(cells.take (k+1)).map (sy grid)=(cells.take k).map (sy grid)++[x]:=by rw[zr hck,List.map_append];simp[zHR hx]
  refine go ?_;refine if_b rfl (fun h2=>?_) (fun h2=>?_)
  ·refine go ?_;refine q_fin () (hv:=?_) (hp:=trivial);rw[hbit]at h2;have h2:=of_decide_eq_true h2;have:dif grid cells=false:=by
    refine decide_eq_false fun hall=>?_;have h3:((cells.take (k+1)).map (sy grid)).Nodup:=List.Nodup.sublist (List.Sublist.map _ (List.take_sublist _ _)) hall;rw[hmap,List.nodup_append]at h3;exact h3.2.2 x h2 x (by simp) rfl
   rw[this];rfl
  refine go ?_;intro _ _ x' hx';cases hx.symm.trans hx';rw[hbit]at h2;have h2:=of_decide_eq_false h2;have hsh:1<<<x<2^16:=by rw[Nat.shiftLeft_eq,Nat.one_mul];exact Nat.pow_lt_pow_right (by omega) (by omega)
  refine(d_p rfl rfl (zOK (a:=1) rfl rfl (by omega) (by omega))).h ?_;refine(d_p rfl rfl (zU0 rfl rfl (by omega) (by omega))).h ?_;refine go ?_;have hstep:met grid (cells.take (k+1))=met grid (cells.take k)|||1<<<x:=by
   rw[met,zr hck,List.foldl_append,← met];simp[zHR hx]
  refine zB (k+1) (by omega) ⟨by omega,by rw[hstep];exact Nat.or_lt_two_pow hm hsh,?_⟩ (hl:=⟨rfl,by rw[hstep];rfl,by repeat (first|exact trivial|refine⟨rfl,?_⟩)⟩);rw[hmap,List.nodup_append];exact⟨hnd,by simp,by rintro a ha b hb rfl;simp at hb;subst hb;exact h2 ha⟩
 refine go ?_;have:k=cells.length:=by omega
 subst this;rw[List.take_length]at hnd;refine q_fin () (hv:=?_) (hp:=trivial);rw[dif,decide_eq_true hnd];rfl
def ris(values grid cells:List Int):Bool:=decide ((cells.map (va values grid)).Pairwise (·<·))
theorem zJN{vv vg vc:Value}{values grid cells:List Int}(hg:zDJ grid)(hc:zCA grid cells)(hv:zJg values grid):
 FnP Tryz.prog 70 [vv,vg,vc] [fSl intE vv values,fSl intE vg grid,fSl intE vc cells] (.bool (ris values grid cells)):=by
 refine zE _ (isC 70) fun B w0=>?_;have hcl:=hc.len;refine go ?_;refine zH (fun k=>cells.length - k.1) (fun k:Nat×Int=>[(12,.int .i64 (k.1:Int)),(7,.int .i64 k.2)]) (fun _=>[]) (fun _=>[]) (fun k=>k.1≤cells.length∧(∀v∈(cells.take k.1).map (va values grid),v≤k.2)∧(k.2= -1∨k.2∈(cells.take k.1).map (va values grid))∧((cells.take k.1).map (va values grid)).Pairwise (·<·)) (0, -1) ⟨by simp,by simp,by simp,by simp⟩ (body:=?_);rintro⟨k,last⟩ ⟨hk,hmax,hlast,hpw⟩;dsimp only at hk hmax hlast hpw;refine go ?_;refine if_d rfl (fun h1=>?_) (fun h1=>?_)
 ·refine go ?_;intro _ _ c hck;have hcc:=hc.cell c (List.mem_of_getElem? hck);obtain⟨c,rfl⟩:=Int.eq_ofNat_of_zero_le hcc.1;refine go ?_;intro _ _ x hx;have hxx:=hg.sym x (List.mem_of_getElem? hx);have hxv:=hv.sym x (List.mem_of_getElem? hx);obtain⟨x,rfl⟩:=Int.eq_ofNat_of_zero_le hxx.1;refine go ?_;intro _ _ v hvx;have hvv:=hv.val v (List.mem_of_getElem? hvx);have hmap:(cells.take (k+1)).map (va values grid)=(cells.take k).map (va values grid)++[v]:=by rw[zr hck,List.map_append];simp[zOb hx hvx]
  refine if_d rfl (fun h2=>?_) (fun h2=>?_)
  ·refine go ?_;refine q_fin () (hv:=?_) (hp:=trivial);have:ris values grid cells=false:=by
    refine decide_eq_false fun hall=>?_;have h3:((cells.take (k+1)).map (va values grid)).Pairwise (·<·):=List.Pairwise.sublist (List.Sublist.map _ (List.take_sublist _ _)) hall;rw[hmap,List.pairwise_append]at h3;rcases hlast with e|e
    ·omega
    ·have:=h3.2.2 last e v (by simp);omega
   rw[this];rfl
  refine go ?_;intro _ _ x' hx';cases hx.symm.trans hx';refine go ?_;intro _ _ v' hv';cases hvx.symm.trans hv';refine go ?_;refine zB (k+1,v) (by show cells.length - (k+1)<cells.length - k;omega) ⟨by show k+1≤_;omega,?_,?_,?_⟩
  ·intro u hu;rw[hmap]at hu;rcases List.mem_append.1 hu with hu|hu
   ·have:=hmax u hu;show u≤v;omega
   ·simp at hu;show u≤v;omega
  ·right;rw[hmap];simp
  ·show((cells.take (k+1)).map (va values grid)).Pairwise (·<·);rw[hmap,List.pairwise_append];refine⟨hpw,by simp,fun a ha b hb=>?_⟩;simp at hb;subst hb;have:=hmax a ha;omega
 refine go ?_;have:k=cells.length:=by omega
 subst this;rw[List.take_length]at hpw;refine q_fin () (hv:=?_) (hp:=trivial);rw[ris,decide_eq_true hpw];rfl
end Go.Proofs.YtpkieeggilkagaaGreat
namespace Go.Proofs.YtpkieeggilkagaaGreat
open Go.Ideal
theorem zIJ{a b n:Int}(ha:0≤a∧a≤1000)(hb:0≤b∧b≤1000):FnP Tryz.prog 81 [.int .i64 a,.int .i64 b,.int .i64 n] [] (.bool (decide (n≤max (a - b) (b - a)))):=by
 refine zE _ (isC 81) fun B w0=>?_;refine go ?_;refine(d_p rfl rfl (zP1 rfl rfl)).h ?_;refine go ?_;exact q_fin () (hv:=rfl) (hp:=trivial)
def rn(grid:List Int)(set:Nat):Nat→List Int→List Int
 |n,[]=>if 0<n then[(n:Int)]else[]
 |n,c::cs=>if set.testBit (sy grid c)then rn grid set (n+1) cs else if 0<n then(n:Int)::rn grid set 0 cs else rn grid set 0 cs
theorem head_drop{α:Type}{l m:List α}{x:α}{j:Nat}(h:x::l=m.drop j):m[j]? =some x∧l=m.drop (j+1):=by
 have hlt:j<m.length:=by
  apply Classical.byContradiction;intro hn;rw[List.drop_eq_nil_of_le (by omega)]at h;cases h
 rw[List.drop_eq_getElem_cons hlt]at h;injection h with h1 h2;exact⟨by rw[List.getElem?_eq_getElem hlt,h1],h2⟩
theorem zHm{b3 b4 b5:Nat}{vg vc:Value}{grid cells:List Int}{set:Nat}(hg:zDJ grid)(hc:zCA grid cells)(hs:set<9223372036854775808):
 zGI Tryz.prog (fun x:Int=>.int .i64 x) (.func 131) [] [ptr' b4,ptr' b5,ptr' b3] [fRaw b4 0 [vc],fRaw b5 0 [.int .i64 (set:Int)],fRaw b3 0 [vg],fSl intE vg grid,fSl intE vc cells] (rn grid set 0 cells):=by
 intro S inv ok step s0 yfn y1 y2 F' h0 hok hy;dsimp only[List.cons_append,List.nil_append];refine zE _ (isC 131) fun B w0=>?_;have hcl:=hc.len;refine go ?_;refine zH (fun x=>cells.length - x.1) (fun x:Nat×Nat×S=>[(10,.int .i64 (x.1:Int)),(5,.int .i64 (x.2.1:Int))]) (fun x=>inv x.2.2) (fun _=>[])
  (fun x=>x.1≤cells.length∧x.2.1≤x.1∧∃j,ok j x.2.2∧zAf step x.2.2 (rn grid set x.2.1 (cells.drop x.1))=zAf step s0 (rn grid set 0 cells)∧rn grid set x.2.1 (cells.drop x.1)=(rn grid set 0 cells).drop j) (0,0,s0) ⟨by simp,by simp,0,h0,rfl,rfl⟩ (body:=?_)
 rintro⟨k,n,s⟩ ⟨hk,hn,j,hos,hrun,hmem⟩;dsimp only at hk hn hos hrun hmem⊢;refine go ?_;refine if_d rfl (fun h1=>?_) (fun h1=>?_)
 ·refine go ?_;intro _ _ c hck;have hcc:=hc.cell c (List.mem_of_getElem? hck);obtain⟨c,rfl⟩:=Int.eq_ofNat_of_zero_le hcc.1;have hdrop:cells.drop k=(c:Int)::cells.drop (k+1):=by
   obtain⟨hlt,he⟩:=List.getElem?_eq_some_iff.1 hck;rw[List.drop_eq_getElem_cons hlt,he]
  rw[hdrop]at hrun hmem;refine go ?_;intro _ _ x hx;have hxx:=hg.sym x (List.mem_of_getElem? hx);obtain⟨x,rfl⟩:=Int.eq_ofNat_of_zero_le hxx.1;refine zA (zCE (set:=set) (sym:=x) hs (by omega)) (next:=fun _ _=>?_);refine go ?_;rw[rn,zHR hx]at hrun hmem;refine if_b rfl (fun h2=>?_) (fun h2=>?_)
  ·rw[if_pos h2]at hrun hmem;refine go ?_;exact zB (k+1,n+1,s) (by show cells.length - (k+1)<cells.length - k;omega) ⟨by show k+1≤_;omega,by show n+1≤k+1;omega,j,hos,hrun,hmem⟩
  rw[if_neg (by rw[h2];simp)]at hrun hmem;refine go ?_;first|with_reducible refine g_d (fun h3=>?_) (fun h3=>?_)|with_reducible refine g_n (fun h3=>?_) (fun h3=>?_)|with_reducible refine g_b (fun h3=>?_) (fun h3=>?_)
  ·rw[if_neg (by omega)]at hrun hmem;refine go ?_;exact zB (k+1,0,s) (by show cells.length - (k+1)<cells.length - k;omega) ⟨by show k+1≤_;omega,by show 0≤k+1;omega,j,hos,hrun,hmem⟩
  rw[if_pos (by omega)]at hrun hmem;refine go ?_;have hj:=head_drop hmem;refine zA (hy j s n hos hj.1) (next:=fun _ _=>?_);refine go ?_;rw[zAf]at hrun;cases hst:step s n with
  |mk s' b=>
   rw[hst]at hrun;cases b with
   |true=>
    refine go ?_;exact zB (k+1,0,s') (by show cells.length - (k+1)<cells.length - k;omega) ⟨by show k+1≤_;omega,by show 0≤k+1;omega,j+1,by have:=hok j s n hos hj.1 (by rw[hst]);rw[hst]at this;exact this,hrun,hj.2⟩
   |false=>
    refine go ?_;exact q_fin () (hv:=rfl) (hp:=trivial) (hk:=by rw[← hrun];exact SelL.all _)
 have hkl:k=cells.length:=by omega
 subst hkl;rw[List.drop_length]at hrun hmem;refine go ?_;refine if_d rfl (fun h3=>?_) (fun h3=>?_)
 ·rw[rn,if_pos (by omega)]at hrun hmem;refine go ?_;have hj:=head_drop hmem;refine zA (hy j s n hos hj.1) (next:=fun _ _=>?_);refine go ?_;have:(step s n).1=zAf step s0 (rn grid set 0 cells):=by
   rw[← hrun,zAf];cases hst:step s n with
   |mk s' b=>cases b<;>rfl
  exact q_fin () (hv:=rfl) (hp:=trivial) (hk:=by rw[← this];exact SelL.all _)
 ·rw[rn,if_neg (by omega)]at hrun;refine go ?_;exact q_fin () (hv:=rfl) (hp:=trivial) (hk:=by rw[← hrun];exact SelL.all _)
theorem zJp{vg vc:Value}{grid cells:List Int}{set:Nat}:FnC Tryz.prog (.func 75) [vg,vc,.int .i64 (set:Int)] [] [] [fSl intE vg grid,fSl intE vc cells]
 (fun y:Nat×Nat×Nat=>.func (.func 131) #[] #[ptr' y.2.1,ptr' y.2.2,ptr' y.1]) (fun _=>[]) (fun y=>[fRaw y.2.1 0 [vc],fRaw y.2.2 0 [.int .i64 (set:Int)],fRaw y.1 0 [vg],fSl intE vg grid,fSl intE vc cells]) (fun _=>True):=by
 refine zE _ (isC 75) fun B w0=>?_;refine zR (E:=intE) (v:=vg) (xs:=grid) (by simp) fun a1 c1 e1=>?_;refine zR (E:=intE) (v:=vc) (xs:=cells) (by simp) fun a2 c2 e2=>?_;subst e1 e2;refine go ?_;intro b3 b4 b5;refine zK (zN (b:=b3)) (h:=?_);refine zK (zN (b:=b4)) (h:=?_);refine zK (zN (b:=b5)) (h:=?_);exact q_fin (b3,b4,b5) (hv:=rfl) (hp:=trivial)
abbrev zU1{α:Type}(E:Enc α)(b:Nat)(ys:List α):OA:=exA fun v:Value=>[pt b (.cells [v]),ap E v ys]
theorem zMf{fn:Fn}{first captured:List Value}{F1:List zJ}{xs:List Int}(hit:zGI Tryz.prog (fun x:Int=>.int .i64 x) fn first captured F1 xs)(hl:xs.length≤1000000):
 FnC Tryz.prog (.func 130) [.slice none 0 0,.func fn ⟨first⟩ ⟨captured⟩] [] [] F1 (fun v:Value=>v) (fun _=>[]) (fun v=>[fSl intE v xs]) (fun _=>True):=by
 refine zFV zGb f_appSeq fun B w0=>?_;refine go ?_;intro b2;refine zAd intE ?_;refine zBb (fun v:Value=>[pt b2 (.cells [v]),ap intE v ([]:List Int)]) (.slice none 0 0) (h:=?_);refine zSJ (val:=fun x:Int=>.int .i64 x) (fun(ys:List Int) (x:Int)=>(ys++[x],Out.normal)) (fun ys=>[zU1 intE b2 ys]) (fun k ys=>ys=xs.take k) [] rfl (fun k s x hs hx _=>by rw[hs,zr hx]) hit
  (hb:=?_) (next:=?_) (hpan:=fun s x=>trivial)
 ·intro k s x lo L B w0 hs hx;subst hs;have hlen:(xs.take k).length≤1000000:=by rw[List.length_take];omega
  refine zEM (h:=fun v=>?_);refine go ?_;intro b10;refine zAv (xs:=xs.take k) intE x () (by omega) (next:=fun ad=>?_);refine go ?_;refine zBb (fun v:Value=>[pt b2 (.cells [v]),ap intE v (xs.take k++[x])]) _ (h:=?_);exact zBp () rfl trivial trivial
 ·intro r;have hrun:∀(ys zs:List Int),zBu (fun(ys:List Int) (x:Int)=>(ys++[x],Out.normal)) ys zs=(ys++zs,.normal):=by
   intro ys zs;induction zs generalizing ys with
   |nil=>simp[zBu]
   |cons z zs ih=>rw[zBu];simp only[ih];simp
  rw[hrun,List.nil_append];dsimp only[List.cons_append,List.nil_append];refine zEM (h:=fun v=>?_);refine go ?_;refine zK (z5 (E:=intE) (v:=v) (xs:=xs)) (h:=?_);exact zEZ v (hv:=rfl) (hp:=trivial)
theorem zGT{fn:Fn}{first captured:List Value}{F1:List zJ}{xs:List Int}(hit:zGI Tryz.prog (fun x:Int=>.int .i64 x) fn first captured F1 xs)(hl:xs.length≤1000000):
 FnC Tryz.prog (.func 74) [.func fn ⟨first⟩ ⟨captured⟩] [] [] F1 (fun v:Value=>v) (fun _=>[]) (fun v=>[fSl intE v xs]) (fun _=>True):=by
 refine zE zFX f_collect fun B w0=>?_;refine go ?_;refine zA (zMf hit hl) (next:=fun v _=>?_);refine go ?_;exact q_fin v (hv:=rfl) (hp:=trivial)
theorem zB2{va vb:Value}{xs ys:List Int}(hal:xs.length<9223372036854775808):FnP Tryz.prog 73 [va,vb] [fSl intE va xs,fSl intE vb ys] (.bool (decide (xs=ys))):=by
 refine zE _ (isC 73) fun B w0=>?_;refine go ?_;refine if_d rfl (fun h1=>?_) (fun h1=>?_)
 ·refine go ?_;refine q_fin () (hv:=?_) (hp:=trivial);rw[decide_eq_false (fun e=>h1 (by rw[e]))];rfl
 have hlen:xs.length=ys.length:=by omega
 refine go ?_;refine zH (fun k=>xs.length - k) (fun k:Nat=>[(13,.int .i64 (k:Int))]) (fun _=>[]) (fun _=>[]) (fun k=>k≤xs.length∧∀j,j<k→xs[j]? =ys[j]?) 0 ⟨by omega,fun j hj=>by omega⟩ (body:=?_);rintro k ⟨hkx,hsame⟩;refine go ?_;refine if_d rfl (fun h2=>?_) (fun h2=>?_)
 ·refine go ?_;intro _ _ x hx _ _ y hy;refine if_d rfl (fun h3=>?_) (fun h3=>?_)
  ·refine go ?_;refine q_fin () (hv:=?_) (hp:=trivial);rw[decide_eq_false (fun e=>h3 (by rw[e,hy]at hx;cases hx;rfl))];rfl
  refine go ?_;refine zB (k+1) (by omega) ⟨by omega,fun j hj=>?_⟩;by_cases e:j=k
  ·subst e;rw[hx,hy,Decidable.not_not.1 h3]
  ·exact hsame j (by omega)
 refine go ?_;refine q_fin () (hv:=?_) (hp:=trivial);have:xs=ys:=by
  apply List.ext_getElem?;intro j;by_cases hj:j<k
  ·exact hsame j hj
  ·rw[List.getElem?_eq_none (by omega),List.getElem?_eq_none (by omega)]
 rw[decide_eq_true this];rfl
end Go.Proofs.YtpkieeggilkagaaGreat
namespace Go.Proofs.YtpkieeggilkagaaGreat
open Go.Ideal
abbrev FnB(P:Program)(fn:Fn)(first cap:List Value)(v:Value)(F:List zJ)(b:Bool):Prop:=FnC P fn (first++[v]) cap [] F (fun _:Unit=>.bool b) (fun _=>[]) (fun _=>[]) (fun _=>True)
theorem zPp{fn:Fn}{first cap:List Value}{F1:List zJ}{p:Int→Bool}{va:Value}{xs:List Int}(hl:xs.length<9223372036854775808)(hp:∀x∈xs,FnB Tryz.prog fn first cap (.int .i64 x) F1 (p x)):
 FnC Tryz.prog (.func 147) [va,.func fn ⟨first⟩ ⟨cap⟩] [] [] (fSl intE va xs::F1) (fun r:Int=>.int .i64 r) (fun _=>[]) (fun _=>[]) (fun r=>(0≤r↔xs.any p=true)):=by
 refine zE _ (isC 147) fun B w0=>?_;refine go ?_;refine zH (fun k=>xs.length - k) (fun k:Nat=>[(8,.int .i64 (k:Int))]) (fun _=>[]) (fun _=>[]) (fun k=>k≤xs.length∧(xs.take k).any p=false) 0 ⟨by omega,by simp⟩ (body:=?_);rintro k ⟨hk,hno⟩;refine go ?_;refine if_d rfl (fun h1=>?_) (fun h1=>?_)
 ·refine go ?_;intro _ _ x hx;refine zA (hp x (List.mem_of_getElem? hx)) (next:=fun _ _=>?_);refine go ?_;refine if_b rfl (fun h2=>?_) (fun h2=>?_)
  ·refine go ?_;refine q_fin (k:Int) (hv:=rfl) (hp:=?_);have:xs.any p=true:=List.any_eq_true.2 ⟨x,List.mem_of_getElem? hx,h2⟩;simp[this]
  ·refine go ?_;refine zB (k+1) (by omega) ⟨by omega,?_⟩;rw[zr hx,List.any_append,hno];simp[h2]
 refine go ?_;have:k=xs.length:=by omega
 subst this;rw[List.take_length]at hno;refine q_fin (-1) (hv:=rfl) (hp:=?_);rw[hno];simp
theorem zJ7{fn:Fn}{first cap:List Value}{F1:List zJ}{p:Int→Bool}{va:Value}{xs:List Int}(hl:xs.length<9223372036854775808)(hp:∀x∈xs,FnB Tryz.prog fn first cap (.int .i64 x) F1 (p x)):
 FnC Tryz.prog (.func 99) [va,.func fn ⟨first⟩ ⟨cap⟩] [] [] (fSl intE va xs::F1) (fun _:Unit=>.bool (xs.any p)) (fun _=>[]) (fun _=>[]) (fun _=>True):=by
 refine zE _ (isC 99) fun B w0=>?_;refine go ?_;refine zA (zPp hl hp) (next:=fun r hr=>?_);refine go ?_;refine q_fin () (hv:=?_) (hp:=trivial);have:decide (0≤r)=xs.any p:=by
  by_cases h:0≤r
  ·rw[decide_eq_true h,hr.1 h]
  ·rw[decide_eq_false h];cases e:xs.any p with
   |false=>rfl
   |true=>exact absurd (hr.2 e) h
 rw[← this];rfl
theorem zRN{va:Value}{xs:List Int}{z:Int}(hl:xs.length<9223372036854775808):
 FnC Tryz.prog (.func 202) [va,.int .i64 z] [] [] [fSl intE va xs] (fun r:Int=>.int .i64 r) (fun _=>[]) (fun _=>[]) (fun r=>(0≤r↔z∈xs)):=by
 refine zE _ (isC 202) fun B w0=>?_;refine go ?_;refine zH (fun k=>xs.length - k) (fun k:Nat=>[(8,.int .i64 (k:Int))]) (fun _=>[]) (fun _=>[]) (fun k=>k≤xs.length∧z∉xs.take k) 0 ⟨by omega,by simp⟩ (body:=?_);rintro k ⟨hk,hno⟩;refine go ?_;refine if_d rfl (fun h1=>?_) (fun h1=>?_)
 ·refine go ?_;intro _ _ x hx;refine if_d rfl (fun h2=>?_) (fun h2=>?_)
  ·refine go ?_;refine q_fin (k:Int) (hv:=rfl) (hp:=?_);subst h2;simp[List.mem_of_getElem? hx]
  ·refine go ?_;refine zB (k+1) (by omega) ⟨by omega,?_⟩;rw[zr hx,List.mem_append,not_or];exact⟨hno,by simpa using h2⟩
 refine go ?_;have:k=xs.length:=by omega
 subst this;rw[List.take_length]at hno;refine q_fin (-1) (hv:=rfl) (hp:=?_);simp[hno]
theorem zMT{va:Value}{xs:List Int}{z:Int}(hl:xs.length<9223372036854775808):FnP Tryz.prog 157 [va,.int .i64 z] [fSl intE va xs] (.bool (decide (z∈xs))):=by
 refine zE _ (isC 157) fun B w0=>?_;refine go ?_;refine zA (zRN hl) (next:=fun r hr=>?_);refine go ?_;refine q_fin () (hv:=?_) (hp:=trivial);rw[← decide_eq_decide.2 hr];rfl
theorem zKi{b4 b5:Nat}{lo hi x:Int}:FnB Tryz.prog (.func 200) [] [ptr' b4,ptr' b5] (.int .i64 x) [fRaw b4 0 [.int .i64 lo],fRaw b5 0 [.int .i64 hi]] (decide (x<lo∨hi<x)):=by
 refine zE _ (isC 200) fun B w0=>?_;refine go ?_;first|with_reducible refine g_d (fun h1=>?_) (fun h1=>?_)|with_reducible refine g_n (fun h1=>?_) (fun h1=>?_)|with_reducible refine g_b (fun h1=>?_) (fun h1=>?_)
 ·refine go ?_;refine q_fin () (hv:=?_) (hp:=trivial);rw[show decide (x<lo∨hi<x)=decide (hi<x)from decide_eq_decide.2 ⟨fun h=>h.elim (fun h=>absurd h h1) id,.inr⟩];rfl
 refine go ?_;refine q_fin () (hv:=?_) (hp:=trivial);rw[decide_eq_true (.inl h1)];rfl
def wit(xs:List Int)(lo hi:Int):Bool:=decide (∀x∈xs,lo≤x∧x≤hi)
theorem zBF{va:Value}{xs:List Int}{lo hi:Int}(hl:xs.length<9223372036854775808):FnP Tryz.prog 151 [va,.int .i64 lo,.int .i64 hi] [fSl intE va xs] (.bool (wit xs lo hi)):=by
 refine zE _ (isC 151) fun B w0=>?_;refine go ?_;intro b4 b5;refine zK (zN (b:=b4)) (h:=?_);refine zK (zN (b:=b5)) (h:=?_);refine zA (zJ7 (p:=fun x=>decide (x<lo∨hi<x)) hl (fun x _=>zKi (b4:=b4) (b5:=b5))) (next:=fun _ _=>?_);refine go ?_;refine q_fin () (hv:=?_) (hp:=trivial);have:(!xs.any fun x=>decide (x<lo∨hi<x))=wit xs lo hi:=by
  rw[List.not_any_eq_all_not,wit];rw[Bool.eq_iff_iff];simp only[List.all_eq_true,decide_eq_true_eq,Bool.not_eq_true',decide_eq_false_iff_not,not_or,Int.not_lt]
 rw[← this];rfl
structure GOK(g:List (List Int)):Prop where
 len:g.length≤256
 ok:∀(i:Nat) l,g[i]? =some l→∀(k:Nat) n,l[k]? =some n→0≤n∧n<g.length∧n≠i∧(∀m,0<k→l[k - 1]? =some m→m<n)∧∀l',g[n.toNat]? =some l'→(i:Int)∈l'
theorem zIG{vg:Value}{g:List (List Int)}(hll:∀l∈g,l.length<9223372036854775808):FnC Tryz.prog (.func 111) [vg] [] [] [fSl (slE intE) vg g] (fun b:Bool=>.int .i64 (if b then 0 else 120)) (fun _=>[]) (fun _=>[]) (fun b=>(b=true↔GOK g)):=by
 refine zE _ (isC 111) fun B w0=>?_;refine go ?_;refine if_d rfl (fun h1=>?_) (fun h1=>?_)
 ·refine go ?_;exact q_fin false (hv:=rfl) (hp:=⟨(fun h=>by cases h),(fun h=>by have:=h.len;omega)⟩)
 refine go ?_;refine zH (fun k=>g.length - k) (fun k:Nat=>[(12,.int .i64 (k:Int))]) (fun _=>[]) (fun _=>[])
  (fun i=>i≤g.length∧∀(i':Nat) l,i'<i→g[i']? =some l→∀(k:Nat) n,l[k]? =some n→0≤n∧n<g.length∧n≠i'∧(∀m,0<k→l[k - 1]? =some m→m<n)∧∀l',g[n.toNat]? =some l'→(i':Int)∈l') 0 ⟨by omega,fun i' l h=>by omega⟩ (body:=?_)
 rintro i ⟨hi,hall⟩;refine go ?_;refine if_d rfl (fun h2=>?_) (fun h2=>?_)
 ·refine go ?_;refine zV (slE intE) (next:=fun _ _ l (vl:Value) hli=>?_);have hl1:=hll l (List.mem_of_getElem? hli);refine go ?_;refine zH (fun k=>l.length - k) (fun k:Nat=>[(19,.int .i64 (k:Int))]) (fun _=>[]) (fun _=>[])
   (fun k=>k≤l.length∧∀(k':Nat) n,k'<k→l[k']? =some n→0≤n∧n<g.length∧n≠i∧(∀m,0<k'→l[k' - 1]? =some m→m<n)∧∀l',g[n.toNat]? =some l'→(i:Int)∈l') 0 ⟨by omega,fun k' n h=>by omega⟩ (body:=?_)
  rintro k ⟨hk,hin⟩;refine go ?_;refine if_d rfl (fun h3=>?_) (fun h3=>?_)
  ·refine go ?_;intro _ _ n hn;have hbad:∀(_:¬(0≤n∧n<g.length∧n≠i∧(∀m,0<k→l[k - 1]? =some m→m<n)∧∀l',g[n.toNat]? =some l'→(i:Int)∈l')),¬GOK g:=fun h hG=>h (hG.ok i l hli k n hn);first|with_reducible refine g_d (fun h4=>?_) (fun h4=>?_)|with_reducible refine g_n (fun h4=>?_) (fun h4=>?_)|with_reducible refine g_b (fun h4=>?_) (fun h4=>?_)
   rotate_left
   ·refine go ?_;exact q_fin false (hv:=rfl) (hp:=⟨(fun h=>by cases h),fun hG=>absurd hG (hbad (fun h=>by omega))⟩)
   refine go ?_;first|with_reducible refine g_d (fun h5=>?_) (fun h5=>?_)|with_reducible refine g_n (fun h5=>?_) (fun h5=>?_)|with_reducible refine g_b (fun h5=>?_) (fun h5=>?_)
   rotate_left
   ·refine go ?_;exact q_fin false (hv:=rfl) (hp:=⟨(fun h=>by cases h),fun hG=>absurd hG (hbad (fun h=>by omega))⟩)
   refine go ?_;first|with_reducible refine g_d (fun h6=>?_) (fun h6=>?_)|with_reducible refine g_n (fun h6=>?_) (fun h6=>?_)|with_reducible refine g_b (fun h6=>?_) (fun h6=>?_)
   rotate_left
   ·refine go ?_;exact q_fin false (hv:=rfl) (hp:=⟨(fun h=>by cases h),fun hG=>absurd hG (hbad (fun h=>by omega))⟩)
   refine go ?_;obtain⟨n,rfl⟩:=Int.eq_ofNat_of_zero_le (show 0≤n by omega);first|with_reducible refine g_d (fun h7=>?_) (fun h7=>?_)|with_reducible refine g_n (fun h7=>?_) (fun h7=>?_)|with_reducible refine g_b (fun h7=>?_) (fun h7=>?_)
   ·have hprev:∀m,0<k→l[k - 1]? =some m→m<(n:Int):=fun m hm=>by omega
    refine go ?_;refine zV (slE intE) (next:=fun _ _ l' (vl':Value) hl'=>?_);have hl1':=hll l' (List.mem_of_getElem? hl');refine go ?_;refine zA (zMT (xs:=l') hl1') (next:=fun _ _=>?_);refine go ?_;refine zJK rfl (fun h9=>?_) (fun h9=>?_)
    ·refine go ?_;exact q_fin false (hv:=rfl) (hp:=⟨(fun h=>by cases h),fun hG=>absurd hG (hbad (fun h=>h9 (h.2.2.2.2 l' (by simpa using hl'))))⟩)
    refine go ?_;refine zB (k+1) (by omega) ⟨by omega,fun k' m hk' hm=>?_⟩;by_cases e:k'=k
    ·subst e;rw[hn]at hm;cases hm;refine⟨by omega,by omega,h6,hprev,fun l2 hl2=>?_⟩;rw[Int.toNat_natCast]at hl2;rw[hl2]at hl';cases hl';exact h9
    ·exact hin k' m (by omega) hm
   refine go ?_;obtain⟨k,rfl⟩:∃k',k=k'+1:=⟨k - 1,by omega⟩
   intro _ _ m hm;rw[show(((k+1:Nat):Int) - 1).toNat=k by omega]at hm;first|with_reducible refine g_d (fun h8=>?_) (fun h8=>?_)|with_reducible refine g_n (fun h8=>?_) (fun h8=>?_)|with_reducible refine g_b (fun h8=>?_) (fun h8=>?_)
   ·have hprev:∀u,0<k+1→l[k+1 - 1]? =some u→u<(n:Int):=fun u _ hu=>by
     rw[Nat.add_sub_cancel,hm]at hu;cases hu;omega
    refine go ?_;refine zV (slE intE) (next:=fun _ _ l' (vl':Value) hl'=>?_);have hl1':=hll l' (List.mem_of_getElem? hl');refine go ?_;refine zA (zMT (xs:=l') hl1') (next:=fun _ _=>?_);refine go ?_;refine zJK rfl (fun h9=>?_) (fun h9=>?_)
    ·refine go ?_;exact q_fin false (hv:=rfl) (hp:=⟨(fun h=>by cases h),fun hG=>absurd hG (hbad (fun h=>h9 (h.2.2.2.2 l' (by simpa using hl'))))⟩)
    refine go ?_;refine zB (k+1+1) (by omega) ⟨by omega,fun k' m hk' hm=>?_⟩;by_cases e:k'=k+1
    ·subst e;rw[hn]at hm;cases hm;refine⟨by omega,by omega,h6,hprev,fun l2 hl2=>?_⟩;rw[Int.toNat_natCast]at hl2;rw[hl2]at hl';cases hl';exact h9
    ·exact hin k' m (by omega) hm
   refine go ?_;refine q_fin false (hv:=rfl) (hp:=⟨(fun h=>by cases h),fun hG=>absurd hG (hbad (fun h=>by have:=h.2.2.2.1 m (by omega) (by rw[Nat.add_sub_cancel];exact hm);omega))⟩)
  refine go ?_;refine zB (i+1) (by omega) ⟨by omega,fun i' l2 hi' hl2=>?_⟩;by_cases e:i'=i
  ·subst e;rw[hli]at hl2;cases hl2;exact fun k' n hn=>hin k' n (by have:=(List.getElem?_eq_some_iff.1 hn).1;omega) hn
  ·exact hall i' l2 (by omega) hl2
 refine go ?_;refine q_fin true (hv:=rfl) (hp:=⟨fun _=>⟨by omega,fun i' l hl=>hall i' l (by have:=(List.getElem?_eq_some_iff.1 hl).1;omega) hl⟩,fun _=>rfl⟩)
end Go.Proofs.YtpkieeggilkagaaGreat
namespace Go.Proofs.YtpkieeggilkagaaGreat
open Go.Ideal
theorem zHt{vg vs:Value}{g:List (List Int)}{sets:List (List Bool)}(hll:∀l∈g,l.length<9223372036854775808)(hsl:sets.length<9223372036854775808):FnC Tryz.prog (.func 50) [vg,vs] [] [] [fSl (slE intE) vg g,fSl (slE zCY) vs sets] (fun r:Int=>.int .i64 r) (fun _=>[]) (fun _=>[])
 (fun r=>(r=0↔GOK g∧∀s∈sets,s.length=g.length)):=by
 refine zE _ (isC 50) fun B w0=>?_;refine go ?_;refine zA (zIG hll) (next:=fun b hb=>?_);cases b with
 |false=>
  refine go ?_;exact q_fin 120 (hv:=rfl) (hp:=⟨(fun h=>by cases h),fun h=>absurd (hb.2 h.1) (by simp)⟩)
 |true=>
  have hG:=hb.1 rfl;refine go ?_;refine zH (fun k=>sets.length - k) (fun k:Nat=>[(15,.int .i64 (k:Int))]) (fun _=>[]) (fun _=>[]) (fun k=>k≤sets.length∧∀s∈sets.take k,s.length=g.length) 0 ⟨by omega,by simp⟩ (body:=?_);rintro k ⟨hk,hall⟩;refine go ?_;refine if_d rfl (fun h1=>?_) (fun h1=>?_)
  ·refine go ?_;refine zV (slE zCY) (next:=fun _ _ s (v:Value) hs=>?_);refine go ?_;refine if_d rfl (fun h2=>?_) (fun h2=>?_)
   ·refine go ?_;exact q_fin 1 (hv:=rfl) (hp:=⟨(fun h=>by cases h),fun h=>absurd (h.2 s (List.mem_of_getElem? hs)) (fun e=>h2 (by rw[e]))⟩)
   refine go ?_;refine zB (k+1) (by omega) ⟨by omega,fun s' hs'=>?_⟩;rw[zr hs]at hs';rcases List.mem_append.1 hs' with h|h
   ·exact hall s' h
   ·rw[List.mem_singleton.1 h];omega
  refine go ?_;have:k=sets.length:=by omega
  subst this;rw[List.take_length]at hall;exact q_fin 0 (hv:=rfl) (hp:=⟨fun _=>⟨hG,hall⟩,fun _=>rfl⟩)
end Go.Proofs.YtpkieeggilkagaaGreat
