/-
  What rules mean for lists of cells: sets of symbols, counts, sums, differences, rises, runs.
-/
import Derived.Test.YtfakljdleblkoaaGreatProg
import Derived.Test.YtfakljdleblkoaaGreatPlainAM
import Derived.Test.YtfakljdleblkoaaGreatIdealMM
set_option linter.all false
set_option maxRecDepth 10000
set_option maxHeartbeats 1000000
namespace Go.Proofs.YtfakljdleblkoaaGreat
open Go.Ideal
noncomputable def KD:=qJ Tryz.prog 153
theorem Ps:lT Tryz.prog 153=some KD:=by kernel_rfl
noncomputable def KE:=qJ Tryz.prog 101
theorem Pt:lT Tryz.prog 101=some KE:=by kernel_rfl
theorem ahj(m n:Nat):decide (((m>>>n&&&1:Nat):Int)=1)=m.testBit n:=by
 rw[Nat.testBit,Nat.and_comm,Nat.one_and_eq_mod_two];have:m>>>n%2=0\/m>>>n%2=1:=by omega
 rcases this with h|h<;>simp[h]
theorem DI{set iJ:Nat}(hs:set<9223372036854775808)(hb:iJ<64):eG Tryz.prog 111 [.int .i64 (set:Int),.int .i64 (iJ:Int)] [] (.bool (set.testBit iJ)):=by
 refine aK _ (aM 111) λB w0=>?_;refine go ?_;refine(fF rfl rfl (FK rfl rfl hb)).h ?_;refine(fF rfl rfl (FL (b:=1) rfl rfl (Es (LY _ _) hs) (by omega))).h ?_;refine go ?_;refine aj () (hv:=?_) (hp:=trivial);rw[<- ahj];rfl
structure zT(grid:List Int):Prop where
 len:grid.length<=1000000
 iJ:∀x∈grid,0<=x/\x<16
structure zU(grid cells:List Int):Prop where
 len:cells.length<=1000000
 cell:∀c∈cells,0<=c/\c<grid.length
def sy(grid:List Int)(c:Int):Nat:=(grid.getD c.toNat 0).toNat
def cnt(grid:List Int)(set:Nat)(cells:List Int):Nat:=(cells.filter λc=>set.testBit (sy grid c)).length
theorem take_one{α:Type}{xs:List α}{k:Nat}{x:α}(h:xs[k]? =some x):xs.take (k+1)=xs.take k++[x]:=by
 rw[pg,h];rfl
theorem DJ{grid:List Int}{c:Nat}{s:Nat}(h:grid[c]? =some (s:Int)):sy grid (c:Int)=s:=by
 simp[sy,List.getD,h]
theorem ahk{vg vc:Value}{grid cells:List Int}{set:Nat}(hg:zT grid)(hc:zU grid cells)(hs:set<9223372036854775808):
 eG Tryz.prog 92 [vg,vc,.int .i64 (set:Int)] [ah ae vg grid,ah ae vc cells] (.int .i64 (cnt grid set cells:Int)):=by
 refine aK _ (aM 92) λB w0=>?_;have hcl:=hc.len;refine go ?_;refine bQ (λk=>cells.length - k) (λk:Nat=>[(11,.int .i64 (k:Int)),(6,.int .i64 (cnt grid set (cells.take k):Int))]) (λ_=>[]) (λ_=>[]) (λk=>k<=cells.length/\cnt grid set (cells.take k)<=k) 0 ⟨by omega,by simp[cnt]⟩ (body:=?_);rintro k ⟨hk,hn⟩;refine go ?_;refine aJ rfl (λh1=>?_) (λh1=>?_)
 ·refine go ?_;intro _ _ c hck;have hcc:=hc.cell c (aR hck);obtain⟨c,rfl⟩:=eO hcc.1;refine go ?_;intro _ _ x hx;have rV:=hg.iJ x (aR hx);obtain⟨x,rfl⟩:=eO rV.1;refine ak (DI (set:=set) (iJ:=x) hs (by omega)) (next:=λ_ _=>?_);refine go ?_;have hstep:cnt grid set (cells.take (k+1))=cnt grid set (cells.take k)+if set.testBit x then 1 else 0:=by
   rw[cnt,take_one hck,Al,gP,<- cnt];congr 1;simp only[En,List.filter_nil,DJ hx];split<;>rfl
  refine wz rfl (λh2=>?_) (λh2=>?_)
  ·rw[if_pos h2]at hstep;refine go ?_;exact bi (k+1) (by omega) ⟨by omega,by omega⟩ (hl:=⟨rfl,by rw[hstep];rfl,by repeat (first|exact trivial|refine⟨rfl,?_⟩)⟩)
  ·rw[if_neg (by rw[h2];simp)]at hstep;refine go ?_;exact bi (k+1) (by omega) ⟨by omega,by omega⟩ (hl:=⟨rfl,by rw[hstep];rfl,by repeat (first|exact trivial|refine⟨rfl,?_⟩)⟩)
 refine go ?_;have:k=cells.length:=by omega
 subst this;refine aj () (hv:=?_) (hp:=trivial);rw[eH];rfl
structure Pv(values grid:List Int):Prop where
 val:∀v∈values,0<=v/\v<=99
 iJ:∀x∈grid,x<values.length
def va(values grid:List Int)(c:Int):Int:=values.getD (sy grid c) 0
def nW(values grid cells:List Int):Int:=(cells.map (va values grid)).sum
theorem Xg{values grid:List Int}{c s:Nat}{v:Int}(h:grid[c]? =some (s:Int))(h2:values[s]? =some v):va values grid (c:Int)=v:=by
 simp[va,DJ h,List.getD,h2]
theorem ahl{vv vg vc:Value}{values grid cells:List Int}(hg:zT grid)(hc:zU grid cells)(hv:Pv values grid):
 eG Tryz.prog 95 [vv,vg,vc] [ah ae vv values,ah ae vg grid,ah ae vc cells] (.int .i64 (nW values grid cells)):=by
 refine aK _ (aM 95) λB w0=>?_;have hcl:=hc.len;refine go ?_;refine bQ (λk=>cells.length - k) (λk:Nat=>[(11,.int .i64 (k:Int)),(6,.int .i64 (nW values grid (cells.take k)))]) (λ_=>[]) (λ_=>[]) (λk=>k<=cells.length/\0<=nW values grid (cells.take k)/\nW values grid (cells.take k)<=99*k) 0 ⟨by omega,by simp[nW],by simp[nW]⟩ (body:=?_);rintro k ⟨hk,hn0,hn⟩;refine go ?_;refine aJ rfl (λh1=>?_) (λh1=>?_)
 ·refine go ?_;intro _ _ c hck;have hcc:=hc.cell c (aR hck);obtain⟨c,rfl⟩:=eO hcc.1;refine go ?_;intro _ _ x hx;have rV:=hg.iJ x (aR hx);have hxv:=hv.iJ x (aR hx);obtain⟨x,rfl⟩:=eO rV.1;refine go ?_;intro _ _ v rR;have hvv:=hv.val v (aR rR);have hstep:nW values grid (cells.take (k+1))=nW values grid (cells.take k)+v:=by
   rw[nW,take_one hck,di,List.sum_append,<- nW];simp[Xg hx rR]
  refine go ?_;exact bi (k+1) (by omega) ⟨by omega,by omega,by omega⟩ (hl:=⟨rfl,by rw[hstep];rfl,by repeat (first|exact trivial|refine⟨rfl,?_⟩)⟩)
 refine go ?_;have:k=cells.length:=by omega
 subst this;refine aj () (hv:=?_) (hp:=trivial);rw[eH];rfl
def yu(grid cells:List Int):Bool:=decide (cells.map (sy grid)).Nodup
def met(grid cells:List Int):Nat:=cells.foldl (λm c=>m|||1<<<sy grid c) 0
theorem Xh(grid:List Int):∀(cells:List Int) (m s:Nat),(cells.foldl (λm c=>m|||1<<<sy grid c) m).testBit s=(m.testBit s||decide (s∈cells.map (sy grid)))
 |[],m,s=>by simp
 |c::cells,m,s=>by
  rw[sN,Xh grid cells,Nat.testBit_or];have:(1<<<sy grid c).testBit s=decide (s=sy grid c):=by
   rw[Nat.testBit_shiftLeft];by_cases h:s=sy grid c
   ·subst h;simp
   ·by_cases h2:sy grid c<=s
    ·have:s - sy grid c≠0:=by omega
     have h3:(1:Nat).testBit (s - sy grid c)=false:=Nat.testBit_lt_two_pow (Nat.one_lt_two_pow this);simp[h,h2,h3]
    ·simp[h,h2]
  rw[this,Bool.or_assoc];congr 1;simp only[fI,bN,Bool.decide_or]
theorem ahm{vg vc:Value}{grid cells:List Int}(hg:zT grid)(hc:zU grid cells):
 eG Tryz.prog 88 [vg,vc] [ah ae vg grid,ah ae vc cells] (.bool (yu grid cells)):=by
 refine aK _ (aM 88) λB w0=>?_;have hcl:=hc.len;refine go ?_;refine bQ (λk=>cells.length - k) (λk:Nat=>[(10,.int .i64 (k:Int)),(5,.int .i64 (met grid (cells.take k):Int))]) (λ_=>[]) (λ_=>[]) (λk=>k<=cells.length/\met grid (cells.take k)<2^16/\((cells.take k).map (sy grid)).Nodup) 0 ⟨by omega,by simp[met],by simp⟩ (body:=?_);rintro k ⟨hk,hm,hnd⟩;refine go ?_;refine aJ rfl (λh1=>?_) (λh1=>?_)
 ·refine go ?_;intro _ _ c hck;have hcc:=hc.cell c (aR hck);obtain⟨c,rfl⟩:=eO hcc.1;refine go ?_;intro _ _ x hx;have rV:=hg.iJ x (aR hx);obtain⟨x,rfl⟩:=eO rV.1;refine ak (DI (set:=met grid (cells.take k)) (iJ:=x) (by omega) (by omega)) (next:=λ_ _=>?_);have hbit:(met grid (cells.take k)).testBit x=decide (x∈(cells.take k).map (sy grid)):=by rw[met,Xh];simp
  have hmap:(cells.take (k+1)).map (sy grid)=(cells.take k).map (sy grid)++[x]:=by rw[take_one hck,di];simp[DJ hx]
  refine go ?_;refine wz rfl (λh2=>?_) (λh2=>?_)
  ·refine go ?_;refine aj () (hv:=?_) (hp:=trivial);rw[hbit]at h2;have h2:=jg h2;have:yu grid cells=false:=by
    refine dM λhall=>?_;have h3:((cells.take (k+1)).map (sy grid)).Nodup:=List.Nodup.sublist (List.Sublist.map _ (LZ _ _)) hall;rw[hmap,iN]at h3;exact h3.2.2 x h2 x (by simp) rfl
   rw[this];rfl
  refine go ?_;intro _ _ x' hx';cases hx.symm.trans hx';rw[hbit]at h2;have h2:=uI h2;have hsh:1<<<x<2^16:=by rw[Nat.shiftLeft_eq,wY];exact RI (by omega) (by omega)
  refine(fF rfl rfl (UG (a:=1) rfl rfl (by omega) (by omega))).h ?_;refine(fF rfl rfl (UH rfl rfl (by omega) (by omega))).h ?_;refine go ?_;have hstep:met grid (cells.take (k+1))=met grid (cells.take k)|||1<<<x:=by
   rw[met,take_one hck,Aq,<- met];simp[DJ hx]
  refine bi (k+1) (by omega) ⟨by omega,by rw[hstep];exact Ru hm hsh,?_⟩ (hl:=⟨rfl,by rw[hstep];rfl,by repeat (first|exact trivial|refine⟨rfl,?_⟩)⟩);rw[hmap,iN];exact⟨hnd,by simp,by rintro a ha b hb rfl;simp at hb;subst hb;exact h2 ha⟩
 refine go ?_;have:k=cells.length:=by omega
 subst this;rw[eH]at hnd;refine aj () (hv:=?_) (hp:=trivial);rw[yu,fQ hnd];rfl
def yx(values grid cells:List Int):Bool:=decide ((cells.map (va values grid)).Pairwise (·<·))
theorem ahn{vv vg vc:Value}{values grid cells:List Int}(hg:zT grid)(hc:zU grid cells)(hv:Pv values grid):
 eG Tryz.prog 98 [vv,vg,vc] [ah ae vv values,ah ae vg grid,ah ae vc cells] (.bool (yx values grid cells)):=by
 refine aK _ (aM 98) λB w0=>?_;have hcl:=hc.len;refine go ?_;refine bQ (λk=>cells.length - k.1) (λk:Nat×Int=>[(12,.int .i64 (k.1:Int)),(7,.int .i64 k.2)]) (λ_=>[]) (λ_=>[]) (λk=>k.1<=cells.length/\(∀v∈(cells.take k.1).map (va values grid),v<=k.2)/\(k.2= -1\/k.2∈(cells.take k.1).map (va values grid))/\((cells.take k.1).map (va values grid)).Pairwise (·<·)) (0, -1) ⟨by simp,by simp,by simp,by simp⟩ (body:=?_);rintro⟨k,last⟩ ⟨hk,hmax,hlast,hpw⟩;dsimp only at hk hmax hlast hpw;refine go ?_;refine aJ rfl (λh1=>?_) (λh1=>?_)
 ·refine go ?_;intro _ _ c hck;have hcc:=hc.cell c (aR hck);obtain⟨c,rfl⟩:=eO hcc.1;refine go ?_;intro _ _ x hx;have rV:=hg.iJ x (aR hx);have hxv:=hv.iJ x (aR hx);obtain⟨x,rfl⟩:=eO rV.1;refine go ?_;intro _ _ v rR;have hvv:=hv.val v (aR rR);have hmap:(cells.take (k+1)).map (va values grid)=(cells.take k).map (va values grid)++[v]:=by rw[take_one hck,di];simp[Xg hx rR]
  refine aJ rfl (λh2=>?_) (λh2=>?_)
  ·refine go ?_;refine aj () (hv:=?_) (hp:=trivial);have:yx values grid cells=false:=by
    refine dM λhall=>?_;have h3:((cells.take (k+1)).map (va values grid)).Pairwise (·<·):=List.Pairwise.sublist (List.Sublist.map _ (LZ _ _)) hall;rw[hmap,GQ]at h3;rcases hlast with e|e
    ·omega
    ·have:=h3.2.2 last e v (by simp);omega
   rw[this];rfl
  refine go ?_;intro _ _ x' hx';cases hx.symm.trans hx';refine go ?_;intro _ _ v' hv';cases rR.symm.trans hv';refine go ?_;refine bi (k+1,v) (by show cells.length - (k+1)<cells.length - k;omega) ⟨by show k+1<=_;omega,?_,?_,?_⟩
  ·intro u hu;rw[hmap]at hu;rcases gH.1 hu with hu|hu
   ·have:=hmax u hu;show u<=v;omega
   ·simp at hu;show u<=v;omega
  ·right;rw[hmap];simp
  ·show((cells.take (k+1)).map (va values grid)).Pairwise (·<·);rw[hmap,GQ];refine⟨hpw,by simp,λa ha b hb=>?_⟩;simp at hb;subst hb;have:=hmax a ha;omega
 refine go ?_;have:k=cells.length:=by omega
 subst this;rw[eH]at hpw;refine aj () (hv:=?_) (hp:=trivial);rw[yx,fQ hpw];rfl
noncomputable def Pw:=qJ Tryz.prog 73
theorem Xi:lT Tryz.prog 73=some Pw:=by kernel_rfl
theorem aho{a b n:Int}(ha:0<=a/\a<=1000)(hb:0<=b/\b<=1000):eG Tryz.prog 108 [.int .i64 a,.int .i64 b,.int .i64 n] [] (.bool (decide (n<=max (a - b) (b - a)))):=by
 refine aK _ (aM 108) λB w0=>?_;refine go ?_;refine(fF rfl rfl (aev rfl rfl)).h ?_;refine go ?_;exact aj () (hv:=rfl) (hp:=trivial)
def rn(grid:List Int)(set:Nat):Nat->List Int->List Int
 |n,[]=>if 0<n then[(n:Int)]else[]
 |n,c::cs=>if set.testBit (sy grid c)then rn grid set (n+1) cs else if 0<n then(n:Int)::rn grid set 0 cs else rn grid set 0 cs
theorem head_drop{α:Type}{l m:List α}{x:α}{j:Nat}(h:x::l=m.drop j):m[j]? =some x/\l=m.drop (j+1):=by
 have hlt:j<m.length:=by
  apply Classical.byContradiction;intro hn;rw[Ce (by omega)]at h;cases h
 rw[nJ hlt]at h;injection h with h1 h2;exact⟨by rw[bC hlt,h1],h2⟩
theorem ahp{b3 b4 b5:Nat}{vg vc:Value}{grid cells:List Int}{set:Nat}(hg:zT grid)(hc:zU grid cells)(hs:set<9223372036854775808):
 Df Tryz.prog (λx:Int=>.int .i64 x) (.func 154) [] [ptr' b4,ptr' b5,ptr' b3] [bz b4 0 [vc],bz b5 0 [.int .i64 (set:Int)],bz b3 0 [vg],ah ae vg grid,ah ae vc cells] (rn grid set 0 cells):=by
 intro S inv ok step s0 ny y1 y2 F' h0 hok hy;dsimp only[List.cons_append,List.nil_append];refine aK _ (aM 154) λB w0=>?_;have hcl:=hc.len;refine go ?_;refine bQ (λx=>cells.length - x.1) (λx:Nat×Nat×S=>[(10,.int .i64 (x.1:Int)),(5,.int .i64 (x.2.1:Int))]) (λx=>inv x.2.2) (λ_=>[])
  (λx=>x.1<=cells.length/\x.2.1<=x.1/\∃j,ok j x.2.2/\bS step x.2.2 (rn grid set x.2.1 (cells.drop x.1))=bS step s0 (rn grid set 0 cells)/\rn grid set x.2.1 (cells.drop x.1)=(rn grid set 0 cells).drop j) (0,0,s0) ⟨by simp,by simp,0,h0,rfl,rfl⟩ (body:=?_)
 rintro⟨k,n,s⟩ ⟨hk,hn,j,hos,hrun,hmem⟩;dsimp only at hk hn hos hrun hmem⊢;refine go ?_;refine aJ rfl (λh1=>?_) (λh1=>?_)
 ·refine go ?_;intro _ _ c hck;have hcc:=hc.cell c (aR hck);obtain⟨c,rfl⟩:=eO hcc.1;have hdrop:cells.drop k=(c:Int)::cells.drop (k+1):=by
   obtain⟨hlt,he⟩:=aW.1 hck;rw[nJ hlt,he]
  rw[hdrop]at hrun hmem;refine go ?_;intro _ _ x hx;have rV:=hg.iJ x (aR hx);obtain⟨x,rfl⟩:=eO rV.1;refine ak (DI (set:=set) (iJ:=x) hs (by omega)) (next:=λ_ _=>?_);refine go ?_;rw[rn,DJ hx]at hrun hmem;refine wz rfl (λh2=>?_) (λh2=>?_)
  ·rw[if_pos h2]at hrun hmem;refine go ?_;exact bi (k+1,n+1,s) (by show cells.length - (k+1)<cells.length - k;omega) ⟨by show k+1<=_;omega,by show n+1<=k+1;omega,j,hos,hrun,hmem⟩
  rw[if_neg (by rw[h2];simp)]at hrun hmem;refine go ?_;refine gG (λh3=>?_) (λh3=>?_)
  ·rw[if_neg (by omega)]at hrun hmem;refine go ?_;exact bi (k+1,0,s) (by show cells.length - (k+1)<cells.length - k;omega) ⟨by show k+1<=_;omega,by show 0<=k+1;omega,j,hos,hrun,hmem⟩
  rw[if_pos (by omega)]at hrun hmem;refine go ?_;have hj:=head_drop hmem;refine ak (hy j s n hos hj.1) (next:=λ_ _=>?_);refine go ?_;rw[bS]at hrun;cases hst:step s n with
  |mk s' b=>
   rw[hst]at hrun;cases b with
   |true=>
    refine go ?_;exact bi (k+1,0,s') (by show cells.length - (k+1)<cells.length - k;omega) ⟨by show k+1<=_;omega,by show 0<=k+1;omega,j+1,by have:=hok j s n hos hj.1 (by rw[hst]);rw[hst]at this;exact this,hrun,hj.2⟩
   |false=>
    refine go ?_;exact aj () (hv:=rfl) (hp:=trivial) (hk:=by rw[<- hrun];exact aO.all _)
 have hkl:k=cells.length:=by omega
 subst hkl;rw[Cg]at hrun hmem;refine go ?_;refine aJ rfl (λh3=>?_) (λh3=>?_)
 ·rw[rn,if_pos (by omega)]at hrun hmem;refine go ?_;have hj:=head_drop hmem;refine ak (hy j s n hos hj.1) (next:=λ_ _=>?_);refine go ?_;have:(step s n).1=bS step s0 (rn grid set 0 cells):=by
   rw[<- hrun,bS];cases hst:step s n with
   |mk s' b=>cases b<;>rfl
  exact aj () (hv:=rfl) (hp:=trivial) (hk:=by rw[<- this];exact aO.all _)
 ·rw[rn,if_neg (by omega)]at hrun;refine go ?_;exact aj () (hv:=rfl) (hp:=trivial) (hk:=by rw[<- hrun];exact aO.all _)
theorem ahq{vg vc:Value}{grid cells:List Int}{set:Nat}:aQ Tryz.prog (.func 102) [vg,vc,.int .i64 (set:Int)] [] [] [ah ae vg grid,ah ae vc cells]
 (λy:Nat×Nat×Nat=>.func (.func 154) #[] #[ptr' y.2.1,ptr' y.2.2,ptr' y.1]) (λ_=>[]) (λy=>[bz y.2.1 0 [vc],bz y.2.2 0 [.int .i64 (set:Int)],bz y.1 0 [vg],ah ae vg grid,ah ae vc cells]) (λ_=>True):=by
 refine aK _ (aM 102) λB w0=>?_;refine bY (E:=ae) (v:=vg) (xs:=grid) (by simp) λa1 c1 e1=>?_;refine bY (E:=ae) (v:=vc) (xs:=cells) (by simp) λa2 c2 e2=>?_;subst e1 e2;refine go ?_;intro b3 b4 b5;refine aZ (dH (b:=b3)) (h:=?_);refine aZ (dH (b:=b4)) (h:=?_);refine aZ (dH (b:=b5)) (h:=?_);exact aj (b3,b4,b5) (hv:=rfl) (hp:=trivial)
abbrev Px{α:Type}(E:Enc α)(b:Nat)(ys:List α):OA:=Jr λv:Value=>[pt b (.cells [v]),ap E v ys]
theorem ahr{fn:Fn}{first captured:List Value}{F1:List aD}{xs:List Int}(hit:Df Tryz.prog (λx:Int=>.int .i64 x) fn first captured F1 xs)(hl:xs.length<=1000000):
 aQ Tryz.prog (.func 153) [.slice none 0 0,.func fn ⟨first⟩ ⟨captured⟩] [] [] F1 (λv:Value=>v) (λ_=>[]) (λv=>[ah ae v xs]) (λ_=>True):=by
 refine zG KD Ps λB w0=>?_;refine go ?_;intro b2;refine lY ae ?_;refine uZ (λv:Value=>[pt b2 (.cells [v]),ap ae v ([]:List Int)]) (.slice none 0 0) (h:=?_);refine UI (val:=λx:Int=>.int .i64 x) (λ(ys:List Int) (x:Int)=>(ys++[x],Out.normal)) (λys=>[Px ae b2 ys]) (λk ys=>ys=xs.take k) [] rfl (λk s x hs hx _=>by rw[hs,take_one hx]) hit
  (hb:=?_) (next:=?_) (iC:=λs x=>trivial)
 ·intro k s x lo L B w0 hs hx;subst hs;have hlen:(xs.take k).length<=1000000:=by rw[iL];omega
  refine zF (h:=λv=>?_);refine go ?_;intro b10;refine jO (xs:=xs.take k) ae x () (by omega) (next:=λad=>?_);refine go ?_;refine uZ (λv:Value=>[pt b2 (.cells [v]),ap ae v (xs.take k++[x])]) _ (h:=?_);exact qQ () rfl trivial trivial
 ·intro r;have hrun:∀(ys zs:List Int),fM (λ(ys:List Int) (x:Int)=>(ys++[x],Out.normal)) ys zs=(ys++zs,.normal):=by
   intro ys zs;induction zs generalizing ys with
   |nil=>simp[fM]
   |cons z zs ih=>rw[fM];simp only[ih];simp
  rw[hrun,bH];dsimp only[List.cons_append,List.nil_append];refine zF (h:=λv=>?_);refine go ?_;refine aZ (jk (E:=ae) (v:=v) (xs:=xs)) (h:=?_);exact u7 v (hv:=rfl) (hp:=trivial)
theorem ahs{fn:Fn}{first captured:List Value}{F1:List aD}{xs:List Int}(hit:Df Tryz.prog (λx:Int=>.int .i64 x) fn first captured F1 xs)(hl:xs.length<=1000000):
 aQ Tryz.prog (.func 101) [.func fn ⟨first⟩ ⟨captured⟩] [] [] F1 (λv:Value=>v) (λ_=>[]) (λv=>[ah ae v xs]) (λ_=>True):=by
 refine aK KE Pt λB w0=>?_;refine go ?_;refine ak (ahr hit hl) (next:=λv _=>?_);refine go ?_;exact aj v (hv:=rfl) (hp:=trivial)
theorem sF{va vb:Value}{xs ys:List Int}(hal:xs.length<9223372036854775808):eG Tryz.prog 73 [va,vb] [ah ae va xs,ah ae vb ys] (.bool (decide (xs=ys))):=by
 refine aK Pw Xi λB w0=>?_;refine go ?_;refine aJ rfl (λh1=>?_) (λh1=>?_)
 ·refine go ?_;refine aj () (hv:=?_) (hp:=trivial);rw[dM (λe=>h1 (by rw[e]))];rfl
 have hlen:xs.length=ys.length:=by omega
 refine go ?_;refine bQ (λk=>xs.length - k) (λk:Nat=>[(13,.int .i64 (k:Int))]) (λ_=>[]) (λ_=>[]) (λk=>k<=xs.length/\∀j,j<k->xs[j]? =ys[j]?) 0 ⟨by omega,λj hj=>by omega⟩ (body:=?_);rintro k ⟨hkx,hsame⟩;refine go ?_;refine aJ rfl (λh2=>?_) (λh2=>?_)
 ·refine go ?_;intro _ _ x hx _ _ y hy;refine aJ rfl (λh3=>?_) (λh3=>?_)
  ·refine go ?_;refine aj () (hv:=?_) (hp:=trivial);rw[dM (λe=>h3 (by rw[e,hy]at hx;cases hx;rfl))];rfl
  refine go ?_;refine bi (k+1) (by omega) ⟨by omega,λj hj=>?_⟩;by_cases e:j=k
  ·subst e;rw[hx,hy,jo.1 h3]
  ·exact hsame j (by omega)
 refine go ?_;refine aj () (hv:=?_) (hp:=trivial);have:xs=ys:=by
  apply iF;intro j;by_cases hj:j<k
  ·exact hsame j hj
  ·rw[fu (by omega),fu (by omega)]
 rw[fQ this];rfl
abbrev KF(P:Program)(fn:Fn)(first cap:List Value)(v:Value)(F:List aD)(b:Bool):Prop:=aQ P fn (first++[v]) cap [] F (λ_:Unit=>.bool b) (λ_=>[]) (λ_=>[]) (λ_=>True)
theorem aht{fn:Fn}{first cap:List Value}{F1:List aD}{p:Int->Bool}{va:Value}{xs:List Int}(hl:xs.length<9223372036854775808)(hp:∀x∈xs,KF Tryz.prog fn first cap (.int .i64 x) F1 (p x)):
 aQ Tryz.prog (.func 200) [va,.func fn ⟨first⟩ ⟨cap⟩] [] [] (ah ae va xs::F1) (λr:Int=>.int .i64 r) (λ_=>[]) (λ_=>[]) (λr=>(0<=r↔xs.any p=true)):=by
 refine aK _ (aM 200) λB w0=>?_;refine go ?_;refine bQ (λk=>xs.length - k) (λk:Nat=>[(8,.int .i64 (k:Int))]) (λ_=>[]) (λ_=>[]) (λk=>k<=xs.length/\(xs.take k).any p=false) 0 ⟨by omega,by simp⟩ (body:=?_);rintro k ⟨hk,hno⟩;refine go ?_;refine aJ rfl (λh1=>?_) (λh1=>?_)
 ·refine go ?_;intro _ _ x hx;refine ak (hp x (aR hx)) (next:=λ_ _=>?_);refine go ?_;refine wz rfl (λh2=>?_) (λh2=>?_)
  ·refine go ?_;refine aj (k:Int) (hv:=rfl) (hp:=?_);have:xs.any p=true:=List.any_eq_true.2 ⟨x,aR hx,h2⟩;simp[this]
  ·refine go ?_;refine bi (k+1) (by omega) ⟨by omega,?_⟩;rw[take_one hx,List.any_append,hno];simp[h2]
 refine go ?_;have:k=xs.length:=by omega
 subst this;rw[eH]at hno;refine aj (-1) (hv:=rfl) (hp:=?_);rw[hno];simp
theorem Xj{fn:Fn}{first cap:List Value}{F1:List aD}{p:Int->Bool}{va:Value}{xs:List Int}(hl:xs.length<9223372036854775808)(hp:∀x∈xs,KF Tryz.prog fn first cap (.int .i64 x) F1 (p x)):
 aQ Tryz.prog (.func 140) [va,.func fn ⟨first⟩ ⟨cap⟩] [] [] (ah ae va xs::F1) (λ_:Unit=>.bool (xs.any p)) (λ_=>[]) (λ_=>[]) (λ_=>True):=by
 refine aK _ (aM 140) λB w0=>?_;refine go ?_;refine ak (aht hl hp) (next:=λr hr=>?_);refine go ?_;refine aj () (hv:=?_) (hp:=trivial);have:decide (0<=r)=xs.any p:=by
  by_cases h:0<=r
  ·rw[fQ h,hr.1 h]
  ·rw[dM h];cases e:xs.any p with
   |false=>rfl
   |true=>exact absurd (hr.2 e) h
 rw[<- this];rfl
theorem ahu{va:Value}{xs:List Int}{z:Int}(hl:xs.length<9223372036854775808):
 aQ Tryz.prog (.func 309) [va,.int .i64 z] [] [] [ah ae va xs] (λr:Int=>.int .i64 r) (λ_=>[]) (λ_=>[]) (λr=>(0<=r↔z∈xs)):=by
 refine aK _ (aM 309) λB w0=>?_;refine go ?_;refine bQ (λk=>xs.length - k) (λk:Nat=>[(8,.int .i64 (k:Int))]) (λ_=>[]) (λ_=>[]) (λk=>k<=xs.length/\z∉xs.take k) 0 ⟨by omega,by simp⟩ (body:=?_);rintro k ⟨hk,hno⟩;refine go ?_;refine aJ rfl (λh1=>?_) (λh1=>?_)
 ·refine go ?_;intro _ _ x hx;refine aJ rfl (λh2=>?_) (λh2=>?_)
  ·refine go ?_;refine aj (k:Int) (hv:=rfl) (hp:=?_);subst h2;simp[aR hx]
  ·refine go ?_;refine bi (k+1) (by omega) ⟨by omega,?_⟩;rw[take_one hx,gH,not_or];exact⟨hno,by simpa using h2⟩
 refine go ?_;have:k=xs.length:=by omega
 subst this;rw[eH]at hno;refine aj (-1) (hv:=rfl) (hp:=?_);simp[hno]
theorem Py{va:Value}{xs:List Int}{z:Int}(hl:xs.length<9223372036854775808):eG Tryz.prog 268 [va,.int .i64 z] [ah ae va xs] (.bool (decide (z∈xs))):=by
 refine aK _ (aM 268) λB w0=>?_;refine go ?_;refine ak (ahu hl) (next:=λr hr=>?_);refine go ?_;refine aj () (hv:=?_) (hp:=trivial);rw[<- nK.2 hr];rfl
theorem ahv{b4 b5:Nat}{lo hi x:Int}:KF Tryz.prog (.func 201) [] [ptr' b4,ptr' b5] (.int .i64 x) [bz b4 0 [.int .i64 lo],bz b5 0 [.int .i64 hi]] (decide (x<lo\/hi<x)):=by
 refine aK _ (aM 201) λB w0=>?_;refine go ?_;refine gG (λh1=>?_) (λh1=>?_)
 ·refine go ?_;refine aj () (hv:=?_) (hp:=trivial);rw[show decide (x<lo\/hi<x)=decide (hi<x)from nK.2 ⟨λh=>h.elim (λh=>absurd h h1) id,.inr⟩];rfl
 refine go ?_;refine aj () (hv:=?_) (hp:=trivial);rw[fQ (.inl h1)];rfl
def yz(xs:List Int)(lo hi:Int):Bool:=decide (∀x∈xs,lo<=x/\x<=hi)
theorem Pz{va:Value}{xs:List Int}{lo hi:Int}(hl:xs.length<9223372036854775808):eG Tryz.prog 142 [va,.int .i64 lo,.int .i64 hi] [ah ae va xs] (.bool (yz xs lo hi)):=by
 refine aK _ (aM 142) λB w0=>?_;refine go ?_;intro b4 b5;refine aZ (dH (b:=b4)) (h:=?_);refine aZ (dH (b:=b5)) (h:=?_);refine ak (Xj (p:=λx=>decide (x<lo\/hi<x)) hl (λx _=>ahv (b4:=b4) (b5:=b5))) (next:=λ_ _=>?_);refine go ?_;refine aj () (hv:=?_) (hp:=trivial);have:(!xs.any λx=>decide (x<lo\/hi<x))=yz xs lo hi:=by
  rw[List.not_any_eq_all_not,yz];rw[sO];simp only[iV,BX,Cb,decide_eq_false_iff_not,not_or,Int.not_lt]
 rw[<- this];rfl
structure iX(g:List (List Int)):Prop where
 len:g.length<=256
 ok:∀(i:Nat) l,g[i]? =some l->∀(k:Nat) n,l[k]? =some n->0<=n/\n<g.length/\n≠i/\(∀m,0<k->l[k - 1]? =some m->m<n)/\∀l',g[n.toNat]? =some l'->(i:Int)∈l'
theorem ahw{vg:Value}{g:List (List Int)}(hll:∀l∈g,l.length<9223372036854775808):aQ Tryz.prog (.func 289) [vg] [] [] [ah (aB ae) vg g] (λb:Bool=>.int .i64 (if b then 0 else 120)) (λ_=>[]) (λ_=>[]) (λb=>(b=true↔iX g)):=by
 refine aK _ (aM 289) λB w0=>?_;refine go ?_;refine aJ rfl (λh1=>?_) (λh1=>?_)
 ·refine go ?_;exact aj false (hv:=rfl) (hp:=⟨(λh=>by cases h),(λh=>by have:=h.len;omega)⟩)
 refine go ?_;refine bQ (λk=>g.length - k) (λk:Nat=>[(12,.int .i64 (k:Int))]) (λ_=>[]) (λ_=>[])
  (λi=>i<=g.length/\∀(i':Nat) l,i'<i->g[i']? =some l->∀(k:Nat) n,l[k]? =some n->0<=n/\n<g.length/\n≠i'/\(∀m,0<k->l[k - 1]? =some m->m<n)/\∀l',g[n.toNat]? =some l'->(i':Int)∈l') 0 ⟨by omega,λi' l h=>by omega⟩ (body:=?_)
 rintro i ⟨hi,hall⟩;refine go ?_;refine aJ rfl (λh2=>?_) (λh2=>?_)
 ·refine go ?_;refine bZ (aB ae) (next:=λ_ _ l (vl:Value) PD=>?_);have hl1:=hll l (aR PD);refine go ?_;refine bQ (λk=>l.length - k) (λk:Nat=>[(19,.int .i64 (k:Int))]) (λ_=>[]) (λ_=>[])
   (λk=>k<=l.length/\∀(k':Nat) n,k'<k->l[k']? =some n->0<=n/\n<g.length/\n≠i/\(∀m,0<k'->l[k' - 1]? =some m->m<n)/\∀l',g[n.toNat]? =some l'->(i:Int)∈l') 0 ⟨by omega,λk' n h=>by omega⟩ (body:=?_)
  rintro k ⟨hk,hin⟩;refine go ?_;refine aJ rfl (λh3=>?_) (λh3=>?_)
  ·refine go ?_;intro _ _ n hn;have hbad:∀(_:¬(0<=n/\n<g.length/\n≠i/\(∀m,0<k->l[k - 1]? =some m->m<n)/\∀l',g[n.toNat]? =some l'->(i:Int)∈l')),¬iX g:=λh hG=>h (hG.ok i l PD k n hn);refine gG (λh4=>?_) (λh4=>?_)
   rotate_left
   ·refine go ?_;exact aj false (hv:=rfl) (hp:=⟨(λh=>by cases h),λhG=>absurd hG (hbad (λh=>by omega))⟩)
   refine go ?_;refine gG (λh5=>?_) (λh5=>?_)
   rotate_left
   ·refine go ?_;exact aj false (hv:=rfl) (hp:=⟨(λh=>by cases h),λhG=>absurd hG (hbad (λh=>by omega))⟩)
   refine go ?_;refine gG (λh6=>?_) (λh6=>?_)
   rotate_left
   ·refine go ?_;exact aj false (hv:=rfl) (hp:=⟨(λh=>by cases h),λhG=>absurd hG (hbad (λh=>by omega))⟩)
   refine go ?_;obtain⟨n,rfl⟩:=eO (show 0<=n by omega);refine gG (λh7=>?_) (λh7=>?_)
   ·have PE:∀m,0<k->l[k - 1]? =some m->m<(n:Int):=λm hm=>by omega
    refine go ?_;refine bZ (aB ae) (next:=λ_ _ l' (oU:Value) hl'=>?_);have PG:=hll l' (aR hl');refine go ?_;refine ak (Py (xs:=l') PG) (next:=λ_ _=>?_);refine go ?_;refine pz rfl (λh9=>?_) (λh9=>?_)
    ·refine go ?_;exact aj false (hv:=rfl) (hp:=⟨(λh=>by cases h),λhG=>absurd hG (hbad (λh=>h9 (h.2.2.2.2 l' (by simpa using hl'))))⟩)
    refine go ?_;refine bi (k+1) (by omega) ⟨by omega,λk' m hk' hm=>?_⟩;by_cases e:k'=k
    ·subst e;rw[hn]at hm;cases hm;refine⟨by omega,by omega,h6,PE,λl2 hl2=>?_⟩;rw[eX]at hl2;rw[hl2]at hl';cases hl';exact h9
    ·exact hin k' m (by omega) hm
   refine go ?_;obtain⟨k,rfl⟩:∃k',k=k'+1:=⟨k - 1,by omega⟩
   intro _ _ m hm;rw[show(((k+1:Nat):Int) - 1).toNat=k by omega]at hm;refine gG (λh8=>?_) (λh8=>?_)
   ·have PE:∀u,0<k+1->l[k+1 - 1]? =some u->u<(n:Int):=λu _ hu=>by
     rw[Rx,hm]at hu;cases hu;omega
    refine go ?_;refine bZ (aB ae) (next:=λ_ _ l' (oU:Value) hl'=>?_);have PG:=hll l' (aR hl');refine go ?_;refine ak (Py (xs:=l') PG) (next:=λ_ _=>?_);refine go ?_;refine pz rfl (λh9=>?_) (λh9=>?_)
    ·refine go ?_;exact aj false (hv:=rfl) (hp:=⟨(λh=>by cases h),λhG=>absurd hG (hbad (λh=>h9 (h.2.2.2.2 l' (by simpa using hl'))))⟩)
    refine go ?_;refine bi (k+1+1) (by omega) ⟨by omega,λk' m hk' hm=>?_⟩;by_cases e:k'=k+1
    ·subst e;rw[hn]at hm;cases hm;refine⟨by omega,by omega,h6,PE,λl2 hl2=>?_⟩;rw[eX]at hl2;rw[hl2]at hl';cases hl';exact h9
    ·exact hin k' m (by omega) hm
   refine go ?_;refine aj false (hv:=rfl) (hp:=⟨(λh=>by cases h),λhG=>absurd hG (hbad (λh=>by have:=h.2.2.2.1 m (by omega) (by rw[Rx];exact hm);omega))⟩)
  refine go ?_;refine bi (i+1) (by omega) ⟨by omega,λi' l2 hi' hl2=>?_⟩;by_cases e:i'=i
  ·subst e;rw[PD]at hl2;cases hl2;exact λk' n hn=>hin k' n (by have:=(aW.1 hn).1;omega) hn
  ·exact hall i' l2 (by omega) hl2
 refine go ?_;refine aj true (hv:=rfl) (hp:=⟨λ_=>⟨by omega,λi' l hl=>hall i' l (by have:=(aW.1 hl).1;omega) hl⟩,λ_=>rfl⟩)
theorem Xk{vg vs:Value}{g:List (List Int)}{sets:List (List Bool)}(hll:∀l∈g,l.length<9223372036854775808)(hsl:sets.length<9223372036854775808):aQ Tryz.prog (.func 216) [vg,vs] [] [] [ah (aB ae) vg g,ah (aB oH) vs sets] (λr:Int=>.int .i64 r) (λ_=>[]) (λ_=>[])
 (λr=>(r=0↔iX g/\∀s∈sets,s.length=g.length)):=by
 refine aK _ (aM 216) λB w0=>?_;refine go ?_;refine ak (ahw hll) (next:=λb hb=>?_);cases b with
 |false=>
  refine go ?_;exact aj 120 (hv:=rfl) (hp:=⟨(λh=>by cases h),λh=>absurd (hb.2 h.1) (by simp)⟩)
 |true=>
  have hG:=hb.1 rfl;refine go ?_;refine bQ (λk=>sets.length - k) (λk:Nat=>[(15,.int .i64 (k:Int))]) (λ_=>[]) (λ_=>[]) (λk=>k<=sets.length/\∀s∈sets.take k,s.length=g.length) 0 ⟨by omega,by simp⟩ (body:=?_);rintro k ⟨hk,hall⟩;refine go ?_;refine aJ rfl (λh1=>?_) (λh1=>?_)
  ·refine go ?_;refine bZ (aB oH) (next:=λ_ _ s (v:Value) hs=>?_);refine go ?_;refine aJ rfl (λh2=>?_) (λh2=>?_)
   ·refine go ?_;exact aj 1 (hv:=rfl) (hp:=⟨(λh=>by cases h),λh=>absurd (h.2 s (aR hs)) (λe=>h2 (by rw[e]))⟩)
   refine go ?_;refine bi (k+1) (by omega) ⟨by omega,λs' hs'=>?_⟩;rw[take_one hs]at hs';rcases gH.1 hs' with h|h
   ·exact hall s' h
   ·rw[bO.1 h];omega
  refine go ?_;have:k=sets.length:=by omega
  subst this;rw[eH]at hall;exact aj 0 (hv:=rfl) (hp:=⟨λ_=>⟨hG,hall⟩,λ_=>rfl⟩)
set_option maxHeartbeats 2000000
open Go.Ideal Gph
theorem Xl(m:Nat):zeros [.bool false] m=(List.replicate m false).map Value.bool:=by rw[Fv,List.map_replicate]
theorem ahx{B:List Nat}{w0:Wd}{kl kl':List OA}{F:List aD}{Q:IH->Prop}{b:Nat}{z:Int}(hk:az (pt b (.cells [.int .i64 z])) kl kl')(h:R Q B w0 (ap ae (.slice (some ⟨b,0,some 0⟩) 1 1) [z]::kl') F):R Q B w0 kl F:=λw s=>
 h w ((s.fA hk).zz λS hp=>.inr ⟨b,0,0,_,rfl,.inl rfl,hp.1,hp.2,rfl,λk x hk=>by
  match k,hk with
  |0,hk=>cases hk;exact⟨(),λj u hj=>by simpa[ae]using hj,λf hf=>by cases hf⟩⟩)
theorem ahy{b3 b4 b5:Nat}{vg nD:Value}{g:List (List Int)}{aC:List Bool}{s0:Int}(hG:iX g)(hll:∀l∈g,l.length<9223372036854775808)(hin:aC.length=g.length)(hs:0<=s0/\s0<g.length):
 Df Tryz.prog (λx:Int=>.int .i64 x) (.func 316) [] [ptr' b3,ptr' b5,ptr' b4] [bz b3 0 [vg],bz b5 0 [.int .i64 s0],bz b4 0 [nD],ah (aB ae) vg g,ah oH nD aC] (xU g aC s0):=by
 intro S inv ok step t0 ny y1 y2 F' h0 hok hy;dsimp only[List.cons_append,List.nil_append];refine aK _ (aM 316) λB w0=>?_;have hlen:=hG.len;obtain⟨s0,rfl⟩:=eO hs.1;refine go ?_;refine xN g.length ⟨by omega,by omega,by omega⟩ λb11=>?_;rw[Xl];refine go ?_;refine mD (o:=0+s0*1) (cs:=(List.replicate g.length false).map Value.bool) (v:=.bool true) (cs':=(oM g.length s0).map Value.bool) (by rw[oM,Ao];simp) (by simp;omega) ?_;refine go ?_;intro bq;refine ahx (b:=bq) (z:=(s0:Int)) .here ?_;refine bQ (λx=>x.1) (λx:Nat×List Bool×List Int×Value×S=>[(6,x.2.2.2.1)]) (λx=>pt b11 (.cells (x.2.1.map Value.bool))::ap ae x.2.2.2.1 x.2.2.1::inv x.2.2.2.2) (λ_=>[])
  (λx=>x.1<=g.length+1/\left x.2.1+x.2.2.1.length<=x.1/\x.2.1.length=g.length/\(∀n∈x.2.2.1,0<=n/\n<g.length)/\∃j,ok j x.2.2.2.2/\bS step x.2.2.2.2 (qR g aC x.1 x.2.1 x.2.2.1)=bS step t0 (xU g aC s0)/\qR g aC x.1 x.2.1 x.2.2.1=(xU g aC s0).drop j)
  (g.length+1,oM g.length s0,[(s0:Int)],.slice (some ⟨bq,0,some 0⟩) 1 1,t0) ⟨bB _,?_,?_,?_,0,h0,rfl,rfl⟩ (body:=?_)
 ·show left (oM g.length s0)+1<=g.length+1;have:left (oM g.length s0)<=(oM g.length s0).length:=Rz _ _;have h:(oM g.length s0).length=g.length:=by rw[oM,nM,RJ]
  rw[h]at this;omega
 ·show(oM g.length s0).length=g.length;rw[oM,nM,RJ]
 ·intro n hn;rw[bO.1 hn];omega
 rintro⟨f,met,queue,qv,s⟩ ⟨hfg,hf,hml,hq,j,hos,hrun,hdrop⟩;dsimp only at hfg hf hml hq hos hrun hdrop⊢;refine go ?_;refine aJ rfl (λh1=>?_) (λh1=>?_)
 ·obtain⟨q0,qs,rfl⟩:∃q0 qs,queue=q0::qs:=by
   cases queue with
   |nil=>simp at h1
   |cons a b=>exact⟨a,b,rfl⟩
  obtain⟨f,rfl⟩:∃f',f=f'+1:=⟨f - 1,by simp at hf;omega⟩
  obtain⟨q0,rfl⟩:=eO (hq q0 (by simp)).1;have hq0:=hq q0 (by simp);rw[qR,eX]at hrun hdrop;have hj:=head_drop hdrop;refine go ?_;refine UJ 0 (q0:Int) rfl λ_ _=>?_;refine ak (hy j s q0 hos hj.1) (next:=λ_ _=>?_);rw[bS]at hrun;cases hst:step s q0 with
  |mk s' b=>
  rw[hst]at hrun;cases b with
  |false=>
   dsimp only at hrun;refine go ?_;exact aj () (hv:=rfl) (hp:=trivial) (hk:=by rw[<- hrun];exact aO.self _ _)
  |true=>
  dsimp only at hrun;have ahz:ok (j+1) s':=by have:=hok j s q0 hos hj.1 (by rw[hst]);rw[hst]at this;exact this
  refine go ?_;refine UJ 0 (q0:Int) rfl λ_ _=>?_;refine bZ (aB ae) (next:=λ_ _ ns (vl:Value) hns=>?_);have hnl:=hll ns (aR hns);have hnr:∀n∈ns,0<=n/\n<(g.length:Int):=λn hn=>by
   obtain⟨k,hk⟩:=jm hn;have:=hG.ok q0 ns hns k n hk;exact⟨this.1,this.2.1⟩
  have hgd:g.getD q0 []=ns:=by rw[Am,hns];rfl
  rw[hgd]at hrun hdrop hj;obtain⟨i1,i2,i4,t,i5,i3⟩:=JR (g:=g) (aC:=aC) ns met ((q0:Int)::qs) hml hnr;refine go ?_;refine bQ (λx=>ns.length - x.1) (λx:Nat×List Bool×List Int×Value=>[(35,.int .i64 (x.1:Int)),(6,x.2.2.2)]) (λx=>[pt b11 (.cells (x.2.1.map Value.bool)),ap ae x.2.2.2 x.2.2.1]) (λ_=>[])
   (λx=>x.1<=ns.length/\x.2.1.length=g.length/\inner aC (ns.drop x.1) x.2.1 x.2.2.1=inner aC ns met ((q0:Int)::qs)/\left x.2.1+x.2.2.1.length=left met+((q0:Int)::qs).length) (0,met,(q0:Int)::qs,qv) ⟨dK _,hml,rfl,rfl⟩ (body:=?_)
  rintro⟨k,met',q',Xm⟩ ⟨hk,Gb,hin',hl'⟩;dsimp only at hk Gb hin' hl'⊢;refine go ?_;refine aJ rfl (λh2=>?_) (λh2=>?_)
  ·refine go ?_;intro _ _ n hn;have hn0:=hnr n (aR hn);obtain⟨n,rfl⟩:=eO hn0.1;have hdk:ns.drop k=(n:Int)::ns.drop (k+1):=by
    obtain⟨hlt,he⟩:=aW.1 hn;rw[nJ hlt,he]
   rw[hdk,inner]at hin';refine go ?_;intro _ _ c hc;have hc':cz aC n=c:=by unfold cz;rw[eX,Am,hc];rfl
   rw[hc']at hin';refine gG (λh3=>?_) (λh3=>?_)
   ·subst h3;rw[if_neg (by simp)]at hin';refine go ?_;exact bi (k+1,met',q',Xm) (by show ns.length - (k+1)<ns.length - k;omega) ⟨by show k+1<=_;omega,Gb,hin',hl'⟩
   subst h3;have hnm:n<met'.length:=by omega
   refine go ?_;refine pF (o:=0+n*1) (cs:=met'.map Value.bool) (.bool met'[n]) (by rw[fw,pV,dR,bC hnm];rfl) ?_;have hm':cz met' n=met'[n]:=by unfold cz;rw[eX,Am,bC hnm];rfl
   rw[hm',LD]at hin';cases hmv:met'[n]with
   |true=>
    rw[hmv,if_neg (by simp)]at hin';refine go ?_;exact bi (k+1,met',q',Xm) (by show ns.length - (k+1)<ns.length - k;omega) ⟨by show k+1<=_;omega,Gb,hin',hl'⟩
   |false=>
    rw[hmv,if_pos (by simp),eX]at hin';have hls:=VL (met:=met') (n:=n) (by rw[bC hnm,hmv]);refine go ?_;refine mD (o:=0+n*1) (cs:=met'.map Value.bool) (v:=.bool true) (cs':=(met'.set n true).map Value.bool) (by rw[Ao];simp) (by simp;omega) ?_;refine go ?_;intro b10;refine jO (xs:=q') ae (n:Int) () (by simp only[lN]at hl' hf;omega) (next:=λad=>?_);refine go ?_;refine bi (k+1,met'.set n true,q'++[(n:Int)],_) (by show ns.length - (k+1)<ns.length - k;omega) ⟨by show k+1<=_;omega,by show(met'.set n true).length=_;rw[nM];exact Gb,hin',?_⟩;show left (met'.set n true)+(q'++[(n:Int)]).length=_;rw[gP,yT];omega
  have hkn:k=ns.length:=by omega
  subst hkn;rw[Cg,inner]at hin';rw[<- hin']at i1 i2 i4 i5 hrun hdrop hj;dsimp only at i1 i2 i4 i5 hrun hdrop hj;rw[bX]at i5;subst i5;rw[List.tail_cons]at hrun hj;refine go ?_;refine aew ae (q:=(q0:Int)) (qs:=qs++t) (λad=>?_);refine go ?_;refine bi (f,met',qs++t,_,s') (vT f) ⟨by show f<=_;omega,?_,Gb,?_,j+1,ahz,hrun,hj.2⟩
  ·show left met'+(qs++t).length<=f;simp only[lN,gP]at hl' hf⊢;omega
  ·intro n hn;rcases gH.1 hn with h|h
   ·exact hq n (by simp[h])
   ·exact hnr n ((i3 n).1 h).1
 have hnil:queue=[]:=by
  cases queue with
  |nil=>rfl
  |cons a b=>simp at h1
 subst hnil;have hb:qR g aC f met []=[]:=by cases f<;>rfl
 rw[hb,bS]at hrun;refine go ?_;exact aj () (hv:=rfl) (hp:=trivial) (hk:=by rw[<- hrun];exact .there _ (.there _ (aO.all _)))
theorem iX.rg{g:List (List Int)}(h:iX g):∀l∈g,∀n∈l,Rg g n:=λl hl n hn=>by
 obtain⟨i,hi⟩:=jm hl;obtain⟨k,hk⟩:=jm hn;have:=h.ok i l hi k n hk;exact⟨this.1,this.2.1⟩
theorem ahA{vg nD:Value}{g:List (List Int)}{aC:List Bool}{s:Int}:aQ Tryz.prog (.func 290) [vg,nD,.int .i64 s] [] [] [ah (aB ae) vg g,ah oH nD aC]
 (λy:Nat×Nat×Nat=>.func (.func 316) #[] #[ptr' y.1,ptr' y.2.2,ptr' y.2.1]) (λ_=>[]) (λy=>[bz y.1 0 [vg],bz y.2.1 0 [nD],bz y.2.2 0 [.int .i64 s],ah (aB ae) vg g,ah oH nD aC]) (λ_=>True):=by
 refine aK _ (aM 290) λB w0=>?_;refine bY (E:=aB ae) (v:=vg) (xs:=g) (by simp) λa1 c1 e1=>?_;refine bY (E:=oH) (v:=nD) (xs:=aC) (by simp) λa2 c2 e2=>?_;subst e1 e2;refine go ?_;intro b3 b4 b5;refine aZ (dH (b:=b3)) (h:=?_);refine aZ (dH (b:=b4)) (h:=?_);refine aZ (dH (b:=b5)) (h:=?_);exact aj (b3,b4,b5) (hv:=rfl) (hp:=trivial)
theorem ahB(m:Nat):zeros [.int .i64 0] m=(List.replicate m (0:Int)).map (Value.int .i64):=by rw[Fv,List.map_replicate]
theorem Xn{S α:Type}(f:S->α->S):∀(xs:List α) (s:S),fM (λs x=>(f s x,Out.normal)) s xs=(xs.foldl f s,.normal)
 |[],s=>rfl
 |x::xs,s=>by rw[fM];exact Xn f xs (f s x)
abbrev DK(b n:Nat):Value:=.slice (some ⟨b,0,some 0⟩) n n
theorem Xo{vg nD:Value}{g:List (List Int)}{aC:List Bool}(hG:iX g)(hll:∀l∈g,l.length<9223372036854775808)(hin:aC.length=g.length):
 aQ Tryz.prog (.func 217) [vg,nD] [] [] [ah (aB ae) vg g,ah oH nD aC] (λb:Nat=>.tuple ⟨[DK b g.length,.int .i64 ((eF g aC g.length).2:Int)]⟩)
  (λb=>[pt b (.cells ((eF g aC g.length).1.map (.int .i64)))]) (λ_=>[]) (λ_=>True):=by
 refine zG _ (aM 217) λB w0=>?_;have hlen:=hG.len;refine go ?_;intro b4 b5;refine xN g.length ⟨by omega,by omega,by omega⟩ λbp=>?_;rw[ahB];refine go ?_;refine aez ?_;refine aeC (λx=>x.2.map NY) (λx=>g.length - x.1) (λx:Nat×List Nat=>[(13,.int .i64 (x.1:Int))])
  (λx=>[Dg x.2,pt b4 (.cells [DK bp g.length]),pt b5 (.cells [.int .i64 ((eF g aC x.1).2:Int)]),pt bp (.cells ((eF g aC x.1).1.map (.int .i64)))]) (λ_=>[]) (λx=>x.1<=g.length) (0,[]) (dK _)
  (hk:=by repeat (first|exact aO.nil|(apply aO.cons;(focus (repeat (first|exact az.here|apply az.there)))))) (body:=?_)
 rintro⟨k,rs⟩ hk;dsimp only at hk⊢;have hpk:=JU g aC k;have hst:=JS g aC k;refine go ?_;refine aJ rfl (λh1=>?_) (λh1=>?_)
 ·refine go ?_;intro _ _ c hc;have hc':cz aC (k:Nat)=c:=by unfold cz;rw[eX,Am,hc];rfl
  have hkl:k<(eF g aC k).1.length:=by omega
  have same:¬(cz aC (k:Nat)=true/\(eF g aC k).1.getD k 0<=0)->eF g aC (k+1)=eF g aC k:=λh=>by rw[hst,Bo,if_neg h]
  have hgd:(eF g aC k).1.getD k 0=(eF g aC k).1[k]:=by rw[Am,bC hkl];rfl
  refine go ?_;refine gG (λh2=>?_) (λh2=>?_)
  ·have hct:c=true:=by simpa using h2
   refine go ?_;refine pF (o:=0+k*1) (cs:=(eF g aC k).1.map (.int .i64)) (.int .i64 (eF g aC k).1[k]) (by rw[fw,pV,dR,bC hkl];rfl) ?_;refine go ?_;refine aJ rfl (λh3=>?_) (λh3=>?_)
   ·have e:=same (λh=>by rw[hgd]at h;omega);refine go ?_;exact N7 (k+1,rs) (by show g.length - (k+1)<g.length - k;omega) (by show k+1<=_;omega) (ha:=by dsimp only;rw[e];repeat (first|exact aX.nil|apply aX.cons|exact aX.self|exact aX.app))
   refine go ?_;refine ak (ahA (g:=g) (aC:=aC) (s:=(k:Int))) (next:=λy _=>?_);refine go ?_;have hkr:Rg g (k:Int):=⟨by omega,by omega⟩
   have hrr:=VO (aC:=aC) hG.rg hkr;have hstep:eF g aC (k+1)=(xV (eF g aC k).1 (xU g aC k) ((eF g aC k).2+1:Nat),(eF g aC k).2+1):=by
    rw[hst,Bo,if_pos ⟨by rw[hc',hct],by rw[hgd];omega⟩]
   refine UI (val:=λx:Int=>.int .i64 x) (λ(p:List Int) (n:Int)=>(p.set n.toNat (((eF g aC k).2:Int)+1),Out.normal))
    (λp=>[pt b4 (.cells [DK bp g.length]),pt b5 (.cells [.int .i64 (((eF g aC k).2:Int)+1)]),pt bp (.cells (p.map (.int .i64)))]) (λ_ p=>p.length=g.length) (eF g aC k).1 hpk.1 (λk s x hs hx _=>by simp[hs])
    (ahy (b3:=y.1) (b5:=y.2.2) (b4:=y.2.1) (s0:=(k:Int)) hG hll hin ⟨by omega,by omega⟩) (hb:=?_) (next:=?_) (iC:=λs x=>trivial)
   ·intro j p n lo L B w0 hp hn;have hnr:=hrr n (aR hn);unfold Rg at hnr;obtain⟨n,rfl⟩:=eO hnr.1;refine go ?_;refine mD (o:=0+n*1) (cs:=p.map (.int .i64)) (v:=.int .i64 (((eF g aC k).2:Int)+1)) (cs':=(p.set ((n:Int).toNat) (((eF g aC k).2:Int)+1)).map (.int .i64)) (by rw[Ao];simp) (by simp;omega) ?_;refine go ?_;exact qQ () rfl trivial trivial
   ·intro r;rw[Xn];dsimp only[List.cons_append,List.nil_append];refine go ?_;refine aeA (rs:=rs) (r:=r) (h:=?_);have e1:((xU g aC (k:Nat)).foldl (λ(p:List Int) (n:Int)=>p.set n.toNat (((eF g aC k).2:Int)+1)) (eF g aC k).1)=(eF g aC (k+1)).1:=by rw[hstep];rfl
    have e2:(((eF g aC k).2:Int)+1)=((eF g aC (k+1)).2:Int):=by rw[hstep];rfl
    rw[e1,e2];exact N7 (k+1,r::rs) (by show g.length - (k+1)<g.length - k;omega) (by show k+1<=_;omega)
  ·have hcf:c=false:=by simpa using h2
   have e:=same (λh=>by rw[hc',hcf]at h;cases h.1);refine go ?_;exact N7 (k+1,rs) (by show g.length - (k+1)<g.length - k;omega) (by show k+1<=_;omega) (ha:=by dsimp only;rw[e];repeat (first|exact aX.nil|apply aX.cons|exact aX.self|exact aX.app))
 have hkl:k=g.length:=by omega
 subst hkl;refine go ?_;exact aeB (rs:=rs) bp (hv:=rfl) (hp:=trivial)
