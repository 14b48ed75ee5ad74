/-
  Part LibAR.
-/
import Derived.Test.YtpkieeggilkagaaGreatProg
import Derived.Test.YtpkieeggilkagaaGreatPlainAR
import Derived.Test.YtpkieeggilkagaaGreatIdealMR
set_option linter.all false
set_option maxRecDepth 10000
set_option maxHeartbeats 1000000
namespace Go.Proofs.YtpkieeggilkagaaGreat
open Go.Ideal
noncomputable def NP:=wK Tryz.prog 130
theorem UM:nV Tryz.prog 130=some NP:=by kernel_rfl
noncomputable def NQ:=wK Tryz.prog 74
theorem UN:nV Tryz.prog 74=some NQ:=by kernel_rfl
theorem aej(m n:Nat):decide (((m>>>n&&&1:Nat):Int)=1)=m.testBit n:=by
 rw[Nat.testBit,Nat.and_comm,Nat.one_and_eq_mod_two];have:m>>>n%2=0\/m>>>n%2=1:=by omega
 rcases this with h|h<;>simp[h]
theorem CY{set dP:Nat}(hs:set<9223372036854775808)(hb:dP<64):bV Tryz.prog 84 [.int .i64 (set:Int),.int .i64 (dP:Int)] [] (.bool (set.testBit dP)):=by
 refine aC _ (aF 84) λB w0=>?_;refine go ?_;refine(gH rfl rfl (ab3 rfl rfl hb)).h ?_;refine(gH rfl rfl (Si (b:=1) rfl rfl (Nat.lt_of_le_of_lt (Nat.shiftRight_le _ _) hs) (by omega))).h ?_;refine go ?_;refine ae () (hv:=?_) (hp:=trivial);rw[<- aej];rfl
structure oN(grid:List Int):Prop where
 len:grid.length<=1000000
 dP:∀x∈grid,0<=x/\x<16
structure oq(grid cells:List Int):Prop where
 len:cells.length<=1000000
 cell:∀c∈cells,0<=c/\c<grid.length
def sy(grid:List Int)(c:Int):Nat:=(grid.getD c.toNat 0).toNat
def cnt(grid:List Int)(set:Nat)(cells:List Int):Nat:=(cells.filter λc=>set.testBit (sy grid c)).length
theorem take_one{α:Type}{xs:List α}{k:Nat}{x:α}(h:xs[k]? =some x):xs.take (k+1)=xs.take k++[x]:=by
 rw[nS,h];rfl
theorem tO{grid:List Int}{c:Nat}{s:Nat}(h:grid[c]? =some (s:Int)):sy grid (c:Int)=s:=by
 simp[sy,List.getD,h]
theorem aek{vg vc:Value}{grid cells:List Int}{set:Nat}(hg:oN grid)(hc:oq grid cells)(hs:set<9223372036854775808):
 bV Tryz.prog 64 [vg,vc,.int .i64 (set:Int)] [ah aa vg grid,ah aa vc cells] (.int .i64 (cnt grid set cells:Int)):=by
 refine aC _ (aF 64) λB w0=>?_;have hcl:=hc.len;refine go ?_;refine aR (λk=>cells.length - k) (λk:Nat=>[(11,.int .i64 (k:Int)),(6,.int .i64 (cnt grid set (cells.take k):Int))]) (λ_=>[]) (λ_=>[]) (λk=>k<=cells.length/\cnt grid set (cells.take k)<=k) 0 ⟨by omega,by simp[cnt]⟩ (body:=?_);rintro k ⟨hk,hn⟩;refine go ?_;refine ay rfl (λh1=>?_) (λh1=>?_)
 ·refine go ?_;intro _ _ c hck;have hcc:=hc.cell c (aP hck);obtain⟨c,rfl⟩:=dZ hcc.1;refine go ?_;intro _ _ x hx;have kw:=hg.dP x (aP hx);obtain⟨x,rfl⟩:=dZ kw.1;refine aj (CY (set:=set) (dP:=x) hs (by omega)) (next:=λ_ _=>?_);refine go ?_;have hstep:cnt grid set (cells.take (k+1))=cnt grid set (cells.take k)+if set.testBit x then 1 else 0:=by
   rw[cnt,take_one hck,uk,gU,<- cnt];congr 1;simp only[zD,Kv,tO hx];split<;>rfl
  refine iZ rfl (λh2=>?_) (λh2=>?_)
  ·rw[if_pos h2]at hstep;refine go ?_;exact aD (k+1) (by omega) ⟨by omega,by omega⟩ (hl:=⟨rfl,by rw[hstep];rfl,by repeat (first|exact trivial|refine⟨rfl,?_⟩)⟩)
  ·rw[if_neg (by rw[h2];simp)]at hstep;refine go ?_;exact aD (k+1) (by omega) ⟨by omega,by omega⟩ (hl:=⟨rfl,by rw[hstep];rfl,by repeat (first|exact trivial|refine⟨rfl,?_⟩)⟩)
 refine go ?_;have:k=cells.length:=by omega
 subst this;refine ae () (hv:=?_) (hp:=trivial);rw[bC];rfl
structure AQ(values grid:List Int):Prop where
 val:∀v∈values,0<=v/\v<=99
 dP:∀x∈grid,x<values.length
def va(values grid:List Int)(c:Int):Int:=values.getD (sy grid c) 0
def lI(values grid cells:List Int):Int:=(cells.map (va values grid)).sum
theorem AU{values grid:List Int}{c s:Nat}{v:Int}(h:grid[c]? =some (s:Int))(h2:values[s]? =some v):va values grid (c:Int)=v:=by
 simp[va,tO h,List.getD,h2]
theorem ael{vv vg vc:Value}{values grid cells:List Int}(hg:oN grid)(hc:oq grid cells)(hv:AQ values grid):
 bV Tryz.prog 67 [vv,vg,vc] [ah aa vv values,ah aa vg grid,ah aa vc cells] (.int .i64 (lI values grid cells)):=by
 refine aC _ (aF 67) λB w0=>?_;have hcl:=hc.len;refine go ?_;refine aR (λk=>cells.length - k) (λk:Nat=>[(11,.int .i64 (k:Int)),(6,.int .i64 (lI values grid (cells.take k)))]) (λ_=>[]) (λ_=>[]) (λk=>k<=cells.length/\0<=lI values grid (cells.take k)/\lI values grid (cells.take k)<=99*k) 0 ⟨by omega,by simp[lI],by simp[lI]⟩ (body:=?_);rintro k ⟨hk,hn0,hn⟩;refine go ?_;refine ay rfl (λh1=>?_) (λh1=>?_)
 ·refine go ?_;intro _ _ c hck;have hcc:=hc.cell c (aP hck);obtain⟨c,rfl⟩:=dZ hcc.1;refine go ?_;intro _ _ x hx;have kw:=hg.dP x (aP hx);have hxv:=hv.dP x (aP hx);obtain⟨x,rfl⟩:=dZ kw.1;refine go ?_;intro _ _ v lm;have hvv:=hv.val v (aP lm);have hstep:lI values grid (cells.take (k+1))=lI values grid (cells.take k)+v:=by
   rw[lI,take_one hck,ed,List.sum_append,<- lI];simp[AU hx lm]
  refine go ?_;exact aD (k+1) (by omega) ⟨by omega,by omega,by omega⟩ (hl:=⟨rfl,by rw[hstep];rfl,by repeat (first|exact trivial|refine⟨rfl,?_⟩)⟩)
 refine go ?_;have:k=cells.length:=by omega
 subst this;refine ae () (hv:=?_) (hp:=trivial);rw[bC];rfl
def zh(grid cells:List Int):Bool:=decide (cells.map (sy grid)).Nodup
def met(grid cells:List Int):Nat:=cells.foldl (λm c=>m|||1<<<sy grid c) 0
theorem UO(grid:List Int):∀(cells:List Int) (m s:Nat),(cells.foldl (λm c=>m|||1<<<sy grid c) m).testBit s=(m.testBit s||decide (s∈cells.map (sy grid)))
 |[],m,s=>by simp
 |c::cells,m,s=>by
  rw[qZ,UO grid cells,Nat.testBit_or];have:(1<<<sy grid c).testBit s=decide (s=sy grid c):=by
   rw[Nat.testBit_shiftLeft];by_cases h:s=sy grid c
   ·subst h;simp
   ·by_cases h2:sy grid c<=s
    ·have:s - sy grid c≠0:=by omega
     have h3:(1:Nat).testBit (s - sy grid c)=false:=Nat.testBit_lt_two_pow (Nat.one_lt_two_pow this);simp[h,h2,h3]
    ·simp[h,h2]
  rw[this,Bool.or_assoc];congr 1;simp only[ik,dG,Bool.decide_or]
theorem aem{vg vc:Value}{grid cells:List Int}(hg:oN grid)(hc:oq grid cells):
 bV Tryz.prog 60 [vg,vc] [ah aa vg grid,ah aa vc cells] (.bool (zh grid cells)):=by
 refine aC _ (aF 60) λB w0=>?_;have hcl:=hc.len;refine go ?_;refine aR (λk=>cells.length - k) (λk:Nat=>[(10,.int .i64 (k:Int)),(5,.int .i64 (met grid (cells.take k):Int))]) (λ_=>[]) (λ_=>[]) (λk=>k<=cells.length/\met grid (cells.take k)<2^16/\((cells.take k).map (sy grid)).Nodup) 0 ⟨by omega,by simp[met],by simp⟩ (body:=?_);rintro k ⟨hk,hm,hnd⟩;refine go ?_;refine ay rfl (λh1=>?_) (λh1=>?_)
 ·refine go ?_;intro _ _ c hck;have hcc:=hc.cell c (aP hck);obtain⟨c,rfl⟩:=dZ hcc.1;refine go ?_;intro _ _ x hx;have kw:=hg.dP x (aP hx);obtain⟨x,rfl⟩:=dZ kw.1;refine aj (CY (set:=met grid (cells.take k)) (dP:=x) (by omega) (by omega)) (next:=λ_ _=>?_);have hbit:(met grid (cells.take k)).testBit x=decide (x∈(cells.take k).map (sy grid)):=by rw[met,UO];simp
  have hmap:(cells.take (k+1)).map (sy grid)=(cells.take k).map (sy grid)++[x]:=by rw[take_one hck,ed];simp[tO hx]
  refine go ?_;refine iZ rfl (λh2=>?_) (λh2=>?_)
  ·refine go ?_;refine ae () (hv:=?_) (hp:=trivial);rw[hbit]at h2;have h2:=iw h2;have:zh grid cells=false:=by
    refine aS λhall=>?_;have h3:((cells.take (k+1)).map (sy grid)).Nodup:=List.Nodup.sublist (List.Sublist.map _ (DR _ _)) hall;rw[hmap,iq]at h3;exact h3.2.2 x h2 x (by simp) rfl
   rw[this];rfl
  refine go ?_;intro _ _ x' hx';cases hx.symm.trans hx';rw[hbit]at h2;have h2:=mK h2;have hsh:1<<<x<2^16:=by rw[DD,ug];exact Gm (by omega) (by omega)
  refine(gH rfl rfl (IL (a:=1) rfl rfl (by omega) (by omega))).h ?_;refine(gH rfl rfl (MI rfl rfl (by omega) (by omega))).h ?_;refine go ?_;have hstep:met grid (cells.take (k+1))=met grid (cells.take k)|||1<<<x:=by
   rw[met,take_one hck,BF,<- met];simp[tO hx]
  refine aD (k+1) (by omega) ⟨by omega,by rw[hstep];exact Kn hm hsh,?_⟩ (hl:=⟨rfl,by rw[hstep];rfl,by repeat (first|exact trivial|refine⟨rfl,?_⟩)⟩);rw[hmap,iq];exact⟨hnd,by simp,by rintro a ha b hb rfl;simp at hb;subst hb;exact h2 ha⟩
 refine go ?_;have:k=cells.length:=by omega
 subst this;rw[bC]at hnd;refine ae () (hv:=?_) (hp:=trivial);rw[zh,dQ hnd];rfl
def zi(values grid cells:List Int):Bool:=decide ((cells.map (va values grid)).Pairwise (·<·))
theorem aen{vv vg vc:Value}{values grid cells:List Int}(hg:oN grid)(hc:oq grid cells)(hv:AQ values grid):
 bV Tryz.prog 70 [vv,vg,vc] [ah aa vv values,ah aa vg grid,ah aa vc cells] (.bool (zi values grid cells)):=by
 refine aC _ (aF 70) λB w0=>?_;have hcl:=hc.len;refine go ?_;refine aR (λk=>cells.length - k.1) (λk:Nat×Int=>[(12,.int .i64 (k.1:Int)),(7,.int .i64 k.2)]) (λ_=>[]) (λ_=>[]) (λk=>k.1<=cells.length/\(∀v∈(cells.take k.1).map (va values grid),v<=k.2)/\(k.2= -1\/k.2∈(cells.take k.1).map (va values grid))/\((cells.take k.1).map (va values grid)).Pairwise (·<·)) (0, -1) ⟨by simp,by simp,by simp,by simp⟩ (body:=?_);rintro⟨k,last⟩ ⟨hk,hmax,hlast,hpw⟩;dsimp only at hk hmax hlast hpw;refine go ?_;refine ay rfl (λh1=>?_) (λh1=>?_)
 ·refine go ?_;intro _ _ c hck;have hcc:=hc.cell c (aP hck);obtain⟨c,rfl⟩:=dZ hcc.1;refine go ?_;intro _ _ x hx;have kw:=hg.dP x (aP hx);have hxv:=hv.dP x (aP hx);obtain⟨x,rfl⟩:=dZ kw.1;refine go ?_;intro _ _ v lm;have hvv:=hv.val v (aP lm);have hmap:(cells.take (k+1)).map (va values grid)=(cells.take k).map (va values grid)++[v]:=by rw[take_one hck,ed];simp[AU hx lm]
  refine ay rfl (λh2=>?_) (λh2=>?_)
  ·refine go ?_;refine ae () (hv:=?_) (hp:=trivial);have:zi values grid cells=false:=by
    refine aS λhall=>?_;have h3:((cells.take (k+1)).map (va values grid)).Pairwise (·<·):=List.Pairwise.sublist (List.Sublist.map _ (DR _ _)) hall;rw[hmap,DN]at h3;rcases hlast with e|e
    ·omega
    ·have:=h3.2.2 last e v (by simp);omega
   rw[this];rfl
  refine go ?_;intro _ _ x' hx';cases hx.symm.trans hx';refine go ?_;intro _ _ v' hv';cases lm.symm.trans hv';refine go ?_;refine aD (k+1,v) (by show cells.length - (k+1)<cells.length - k;omega) ⟨by show k+1<=_;omega,?_,?_,?_⟩
  ·intro u hu;rw[hmap]at hu;rcases dB.1 hu with hu|hu
   ·have:=hmax u hu;show u<=v;omega
   ·simp at hu;show u<=v;omega
  ·right;rw[hmap];simp
  ·show((cells.take (k+1)).map (va values grid)).Pairwise (·<·);rw[hmap,DN];refine⟨hpw,by simp,λa ha b hb=>?_⟩;simp at hb;subst hb;have:=hmax a ha;omega
 refine go ?_;have:k=cells.length:=by omega
 subst this;rw[bC]at hpw;refine ae () (hv:=?_) (hp:=trivial);rw[zi,dQ hpw];rfl
theorem aeo{a b n:Int}(ha:0<=a/\a<=1000)(hb:0<=b/\b<=1000):bV Tryz.prog 81 [.int .i64 a,.int .i64 b,.int .i64 n] [] (.bool (decide (n<=max (a - b) (b - a)))):=by
 refine aC _ (aF 81) λB w0=>?_;refine go ?_;refine(gH rfl rfl (ab4 rfl rfl)).h ?_;refine go ?_;exact ae () (hv:=rfl) (hp:=trivial)
def rn(grid:List Int)(set:Nat):Nat->List Int->List Int
 |n,[]=>if 0<n then[(n:Int)]else[]
 |n,c::cs=>if set.testBit (sy grid c)then rn grid set (n+1) cs else if 0<n then(n:Int)::rn grid set 0 cs else rn grid set 0 cs
theorem head_drop{α:Type}{l m:List α}{x:α}{j:Nat}(h:x::l=m.drop j):m[j]? =some x/\l=m.drop (j+1):=by
 have hlt:j<m.length:=by
  apply Classical.byContradiction;intro hn;rw[DF (by omega)]at h;cases h
 rw[nR hlt]at h;injection h with h1 h2;exact⟨by rw[bN hlt,h1],h2⟩
theorem aep{b3 b4 b5:Nat}{vg vc:Value}{grid cells:List Int}{set:Nat}(hg:oN grid)(hc:oq grid cells)(hs:set<9223372036854775808):
 Cw Tryz.prog (λx:Int=>.int .i64 x) (.func 131) [] [ptr' b4,ptr' b5,ptr' b3] [bZ b4 0 [vc],bZ b5 0 [.int .i64 (set:Int)],bZ b3 0 [vg],ah aa vg grid,ah aa vc cells] (rn grid set 0 cells):=by
 intro S inv ok step s0 qF y1 y2 F' h0 hok hy;dsimp only[List.cons_append,List.nil_append];refine aC _ (aF 131) λB w0=>?_;have hcl:=hc.len;refine go ?_;refine aR (λx=>cells.length - x.1) (λx:Nat×Nat×S=>[(10,.int .i64 (x.1:Int)),(5,.int .i64 (x.2.1:Int))]) (λx=>inv x.2.2) (λ_=>[])
  (λx=>x.1<=cells.length/\x.2.1<=x.1/\∃j,ok j x.2.2/\gq step x.2.2 (rn grid set x.2.1 (cells.drop x.1))=gq step s0 (rn grid set 0 cells)/\rn grid set x.2.1 (cells.drop x.1)=(rn grid set 0 cells).drop j) (0,0,s0) ⟨by simp,by simp,0,h0,rfl,rfl⟩ (body:=?_)
 rintro⟨k,n,s⟩ ⟨hk,hn,j,hos,hrun,hmem⟩;dsimp only at hk hn hos hrun hmem⊢;refine go ?_;refine ay rfl (λh1=>?_) (λh1=>?_)
 ·refine go ?_;intro _ _ c hck;have hcc:=hc.cell c (aP hck);obtain⟨c,rfl⟩:=dZ hcc.1;have hdrop:cells.drop k=(c:Int)::cells.drop (k+1):=by
   obtain⟨hlt,he⟩:=bK.1 hck;rw[nR hlt,he]
  rw[hdrop]at hrun hmem;refine go ?_;intro _ _ x hx;have kw:=hg.dP x (aP hx);obtain⟨x,rfl⟩:=dZ kw.1;refine aj (CY (set:=set) (dP:=x) hs (by omega)) (next:=λ_ _=>?_);refine go ?_;rw[rn,tO hx]at hrun hmem;refine iZ rfl (λh2=>?_) (λh2=>?_)
  ·rw[if_pos h2]at hrun hmem;refine go ?_;exact aD (k+1,n+1,s) (by show cells.length - (k+1)<cells.length - k;omega) ⟨by show k+1<=_;omega,by show n+1<=k+1;omega,j,hos,hrun,hmem⟩
  rw[if_neg (by rw[h2];simp)]at hrun hmem;refine go ?_;refine gG (λh3=>?_) (λh3=>?_)
  ·rw[if_neg (by omega)]at hrun hmem;refine go ?_;exact aD (k+1,0,s) (by show cells.length - (k+1)<cells.length - k;omega) ⟨by show k+1<=_;omega,by show 0<=k+1;omega,j,hos,hrun,hmem⟩
  rw[if_pos (by omega)]at hrun hmem;refine go ?_;have hj:=head_drop hmem;refine aj (hy j s n hos hj.1) (next:=λ_ _=>?_);refine go ?_;rw[gq]at hrun;cases hst:step s n with
  |mk s' b=>
   rw[hst]at hrun;cases b with
   |true=>
    refine go ?_;exact aD (k+1,0,s') (by show cells.length - (k+1)<cells.length - k;omega) ⟨by show k+1<=_;omega,by show 0<=k+1;omega,j+1,by have:=hok j s n hos hj.1 (by rw[hst]);rw[hst]at this;exact this,hrun,hj.2⟩
   |false=>
    refine go ?_;exact ae () (hv:=rfl) (hp:=trivial) (hk:=by rw[<- hrun];exact aJ.all _)
 have hkl:k=cells.length:=by omega
 subst hkl;rw[Gn]at hrun hmem;refine go ?_;refine ay rfl (λh3=>?_) (λh3=>?_)
 ·rw[rn,if_pos (by omega)]at hrun hmem;refine go ?_;have hj:=head_drop hmem;refine aj (hy j s n hos hj.1) (next:=λ_ _=>?_);refine go ?_;have:(step s n).1=gq step s0 (rn grid set 0 cells):=by
   rw[<- hrun,gq];cases hst:step s n with
   |mk s' b=>cases b<;>rfl
  exact ae () (hv:=rfl) (hp:=trivial) (hk:=by rw[<- this];exact aJ.all _)
 ·rw[rn,if_neg (by omega)]at hrun;refine go ?_;exact ae () (hv:=rfl) (hp:=trivial) (hk:=by rw[<- hrun];exact aJ.all _)
theorem aeq{vg vc:Value}{grid cells:List Int}{set:Nat}:aV Tryz.prog (.func 75) [vg,vc,.int .i64 (set:Int)] [] [] [ah aa vg grid,ah aa vc cells]
 (λy:Nat×Nat×Nat=>.func (.func 131) #[] #[ptr' y.2.1,ptr' y.2.2,ptr' y.1]) (λ_=>[]) (λy=>[bZ y.2.1 0 [vc],bZ y.2.2 0 [.int .i64 (set:Int)],bZ y.1 0 [vg],ah aa vg grid,ah aa vc cells]) (λ_=>True):=by
 refine aC _ (aF 75) λB w0=>?_;refine aT (E:=aa) (v:=vg) (xs:=grid) (by simp) λa1 c1 e1=>?_;refine aT (E:=aa) (v:=vc) (xs:=cells) (by simp) λa2 c2 e2=>?_;subst e1 e2;refine go ?_;intro b3 b4 b5;refine aW (eB (b:=b3)) (h:=?_);refine aW (eB (b:=b4)) (h:=?_);refine aW (eB (b:=b5)) (h:=?_);exact ae (b3,b4,b5) (hv:=rfl) (hp:=trivial)
abbrev UQ{α:Type}(E:Enc α)(b:Nat)(ys:List α):OA:=MJ λv:Value=>[pt b (.cells [v]),ap E v ys]
theorem aer{fn:Fn}{first captured:List Value}{F1:List aL}{xs:List Int}(hit:Cw Tryz.prog (λx:Int=>.int .i64 x) fn first captured F1 xs)(hl:xs.length<=1000000):
 aV Tryz.prog (.func 130) [.slice none 0 0,.func fn ⟨first⟩ ⟨captured⟩] [] [] F1 (λv:Value=>v) (λ_=>[]) (λv=>[ah aa v xs]) (λ_=>True):=by
 refine Cx NP UM λB w0=>?_;refine go ?_;intro b2;refine fJ aa ?_;refine IQ (λv:Value=>[pt b2 (.cells [v]),ap aa v ([]:List Int)]) (.slice none 0 0) (h:=?_);refine Sj (val:=λx:Int=>.int .i64 x) (λ(ys:List Int) (x:Int)=>(ys++[x],Out.normal)) (λys=>[UQ aa b2 ys]) (λk ys=>ys=xs.take k) [] rfl (λk s x hs hx _=>by rw[hs,take_one hx]) hit
  (hb:=?_) (next:=?_) (iY:=λs x=>trivial)
 ·intro k s x lo L B w0 hs hx;subst hs;have hlen:(xs.take k).length<=1000000:=by rw[gL];omega
  refine IP (h:=λv=>?_);refine go ?_;intro b10;refine eG (xs:=xs.take k) aa x () (by omega) (next:=λad=>?_);refine go ?_;refine IQ (λv:Value=>[pt b2 (.cells [v]),ap aa v (xs.take k++[x])]) _ (h:=?_);exact w9 () rfl trivial trivial
 ·intro r;have hrun:∀(ys zs:List Int),iO (λ(ys:List Int) (x:Int)=>(ys++[x],Out.normal)) ys zs=(ys++zs,.normal):=by
   intro ys zs;induction zs generalizing ys with
   |nil=>simp[iO]
   |cons z zs ih=>rw[iO];simp only[ih];simp
  rw[hrun,bY];dsimp only[List.cons_append,List.nil_append];refine IP (h:=λv=>?_);refine go ?_;refine aW (fG (E:=aa) (v:=v) (xs:=xs)) (h:=?_);exact Al v (hv:=rfl) (hp:=trivial)
theorem aes{fn:Fn}{first captured:List Value}{F1:List aL}{xs:List Int}(hit:Cw Tryz.prog (λx:Int=>.int .i64 x) fn first captured F1 xs)(hl:xs.length<=1000000):
 aV Tryz.prog (.func 74) [.func fn ⟨first⟩ ⟨captured⟩] [] [] F1 (λv:Value=>v) (λ_=>[]) (λv=>[ah aa v xs]) (λ_=>True):=by
 refine aC NQ UN λB w0=>?_;refine go ?_;refine aj (aer hit hl) (next:=λv _=>?_);refine go ?_;exact ae v (hv:=rfl) (hp:=trivial)
theorem zk{va vb:Value}{xs ys:List Int}(hal:xs.length<9223372036854775808):bV Tryz.prog 73 [va,vb] [ah aa va xs,ah aa vb ys] (.bool (decide (xs=ys))):=by
 refine aC _ (aF 73) λB w0=>?_;refine go ?_;refine ay rfl (λh1=>?_) (λh1=>?_)
 ·refine go ?_;refine ae () (hv:=?_) (hp:=trivial);rw[aS (λe=>h1 (by rw[e]))];rfl
 have hlen:xs.length=ys.length:=by omega
 refine go ?_;refine aR (λk=>xs.length - k) (λk:Nat=>[(13,.int .i64 (k:Int))]) (λ_=>[]) (λ_=>[]) (λk=>k<=xs.length/\∀j,j<k->xs[j]? =ys[j]?) 0 ⟨by omega,λj hj=>by omega⟩ (body:=?_);rintro k ⟨hkx,hsame⟩;refine go ?_;refine ay rfl (λh2=>?_) (λh2=>?_)
 ·refine go ?_;intro _ _ x hx _ _ y hy;refine ay rfl (λh3=>?_) (λh3=>?_)
  ·refine go ?_;refine ae () (hv:=?_) (hp:=trivial);rw[aS (λe=>h3 (by rw[e,hy]at hx;cases hx;rfl))];rfl
  refine go ?_;refine aD (k+1) (by omega) ⟨by omega,λj hj=>?_⟩;by_cases e:j=k
  ·subst e;rw[hx,hy,gM.1 h3]
  ·exact hsame j (by omega)
 refine go ?_;refine ae () (hv:=?_) (hp:=trivial);have:xs=ys:=by
  apply kP;intro j;by_cases hj:j<k
  ·exact hsame j hj
  ·rw[iX (by omega),iX (by omega)]
 rw[dQ this];rfl
abbrev JA(P:Program)(fn:Fn)(first cap:List Value)(v:Value)(F:List aL)(b:Bool):Prop:=aV P fn (first++[v]) cap [] F (λ_:Unit=>.bool b) (λ_=>[]) (λ_=>[]) (λ_=>True)
theorem aet{fn:Fn}{first cap:List Value}{F1:List aL}{p:Int->Bool}{va:Value}{xs:List Int}(hl:xs.length<9223372036854775808)(hp:∀x∈xs,JA Tryz.prog fn first cap (.int .i64 x) F1 (p x)):
 aV Tryz.prog (.func 147) [va,.func fn ⟨first⟩ ⟨cap⟩] [] [] (ah aa va xs::F1) (λr:Int=>.int .i64 r) (λ_=>[]) (λ_=>[]) (λr=>(0<=r↔xs.any p=true)):=by
 refine aC _ (aF 147) λB w0=>?_;refine go ?_;refine aR (λk=>xs.length - k) (λk:Nat=>[(8,.int .i64 (k:Int))]) (λ_=>[]) (λ_=>[]) (λk=>k<=xs.length/\(xs.take k).any p=false) 0 ⟨by omega,by simp⟩ (body:=?_);rintro k ⟨hk,hno⟩;refine go ?_;refine ay rfl (λh1=>?_) (λh1=>?_)
 ·refine go ?_;intro _ _ x hx;refine aj (hp x (aP hx)) (next:=λ_ _=>?_);refine go ?_;refine iZ rfl (λh2=>?_) (λh2=>?_)
  ·refine go ?_;refine ae (k:Int) (hv:=rfl) (hp:=?_);have:xs.any p=true:=List.any_eq_true.2 ⟨x,aP hx,h2⟩;simp[this]
  ·refine go ?_;refine aD (k+1) (by omega) ⟨by omega,?_⟩;rw[take_one hx,List.any_append,hno];simp[h2]
 refine go ?_;have:k=xs.length:=by omega
 subst this;rw[bC]at hno;refine ae (-1) (hv:=rfl) (hp:=?_);rw[hno];simp
theorem UR{fn:Fn}{first cap:List Value}{F1:List aL}{p:Int->Bool}{va:Value}{xs:List Int}(hl:xs.length<9223372036854775808)(hp:∀x∈xs,JA Tryz.prog fn first cap (.int .i64 x) F1 (p x)):
 aV Tryz.prog (.func 99) [va,.func fn ⟨first⟩ ⟨cap⟩] [] [] (ah aa va xs::F1) (λ_:Unit=>.bool (xs.any p)) (λ_=>[]) (λ_=>[]) (λ_=>True):=by
 refine aC _ (aF 99) λB w0=>?_;refine go ?_;refine aj (aet hl hp) (next:=λr hr=>?_);refine go ?_;refine ae () (hv:=?_) (hp:=trivial);have:decide (0<=r)=xs.any p:=by
  by_cases h:0<=r
  ·rw[dQ h,hr.1 h]
  ·rw[aS h];cases e:xs.any p with
   |false=>rfl
   |true=>exact absurd (hr.2 e) h
 rw[<- this];rfl
theorem aeu{va:Value}{xs:List Int}{z:Int}(hl:xs.length<9223372036854775808):
 aV Tryz.prog (.func 202) [va,.int .i64 z] [] [] [ah aa va xs] (λr:Int=>.int .i64 r) (λ_=>[]) (λ_=>[]) (λr=>(0<=r↔z∈xs)):=by
 refine aC _ (aF 202) λB w0=>?_;refine go ?_;refine aR (λk=>xs.length - k) (λk:Nat=>[(8,.int .i64 (k:Int))]) (λ_=>[]) (λ_=>[]) (λk=>k<=xs.length/\z∉xs.take k) 0 ⟨by omega,by simp⟩ (body:=?_);rintro k ⟨hk,hno⟩;refine go ?_;refine ay rfl (λh1=>?_) (λh1=>?_)
 ·refine go ?_;intro _ _ x hx;refine ay rfl (λh2=>?_) (λh2=>?_)
  ·refine go ?_;refine ae (k:Int) (hv:=rfl) (hp:=?_);subst h2;simp[aP hx]
  ·refine go ?_;refine aD (k+1) (by omega) ⟨by omega,?_⟩;rw[take_one hx,dB,not_or];exact⟨hno,by simpa using h2⟩
 refine go ?_;have:k=xs.length:=by omega
 subst this;rw[bC]at hno;refine ae (-1) (hv:=rfl) (hp:=?_);simp[hno]
theorem UT{va:Value}{xs:List Int}{z:Int}(hl:xs.length<9223372036854775808):bV Tryz.prog 157 [va,.int .i64 z] [ah aa va xs] (.bool (decide (z∈xs))):=by
 refine aC _ (aF 157) λB w0=>?_;refine go ?_;refine aj (aeu hl) (next:=λr hr=>?_);refine go ?_;refine ae () (hv:=?_) (hp:=trivial);rw[<- l6.2 hr];rfl
theorem aev{b4 b5:Nat}{lo hi x:Int}:JA Tryz.prog (.func 200) [] [ptr' b4,ptr' b5] (.int .i64 x) [bZ b4 0 [.int .i64 lo],bZ b5 0 [.int .i64 hi]] (decide (x<lo\/hi<x)):=by
 refine aC _ (aF 200) λB w0=>?_;refine go ?_;refine gG (λh1=>?_) (λh1=>?_)
 ·refine go ?_;refine ae () (hv:=?_) (hp:=trivial);rw[show decide (x<lo\/hi<x)=decide (hi<x)from l6.2 ⟨λh=>h.elim (λh=>absurd h h1) id,.inr⟩];rfl
 refine go ?_;refine ae () (hv:=?_) (hp:=trivial);rw[dQ (.inl h1)];rfl
def xP(xs:List Int)(lo hi:Int):Bool:=decide (∀x∈xs,lo<=x/\x<=hi)
theorem NR{va:Value}{xs:List Int}{lo hi:Int}(hl:xs.length<9223372036854775808):bV Tryz.prog 151 [va,.int .i64 lo,.int .i64 hi] [ah aa va xs] (.bool (xP xs lo hi)):=by
 refine aC _ (aF 151) λB w0=>?_;refine go ?_;intro b4 b5;refine aW (eB (b:=b4)) (h:=?_);refine aW (eB (b:=b5)) (h:=?_);refine aj (UR (p:=λx=>decide (x<lo\/hi<x)) hl (λx _=>aev (b4:=b4) (b5:=b5))) (next:=λ_ _=>?_);refine go ?_;refine ae () (hv:=?_) (hp:=trivial);have:(!xs.any λx=>decide (x<lo\/hi<x))=xP xs lo hi:=by
  rw[List.not_any_eq_all_not,xP];rw[yx];simp only[kg,yu,Bz,decide_eq_false_iff_not,not_or,Int.not_lt]
 rw[<- this];rfl
structure gX(g:List (List Int)):Prop where
 len:g.length<=256
 ok:∀(i:Nat) l,g[i]? =some l->∀(k:Nat) n,l[k]? =some n->0<=n/\n<g.length/\n≠i/\(∀m,0<k->l[k - 1]? =some m->m<n)/\∀l',g[n.toNat]? =some l'->(i:Int)∈l'
theorem aew{vg:Value}{g:List (List Int)}(hll:∀l∈g,l.length<9223372036854775808):aV Tryz.prog (.func 111) [vg] [] [] [ah (ax aa) vg g] (λb:Bool=>.int .i64 (if b then 0 else 120)) (λ_=>[]) (λ_=>[]) (λb=>(b=true↔gX g)):=by
 refine aC _ (aF 111) λB w0=>?_;refine go ?_;refine ay rfl (λh1=>?_) (λh1=>?_)
 ·refine go ?_;exact ae false (hv:=rfl) (hp:=⟨(λh=>by cases h),(λh=>by have:=h.len;omega)⟩)
 refine go ?_;refine aR (λk=>g.length - k) (λk:Nat=>[(12,.int .i64 (k:Int))]) (λ_=>[]) (λ_=>[])
  (λi=>i<=g.length/\∀(i':Nat) l,i'<i->g[i']? =some l->∀(k:Nat) n,l[k]? =some n->0<=n/\n<g.length/\n≠i'/\(∀m,0<k->l[k - 1]? =some m->m<n)/\∀l',g[n.toNat]? =some l'->(i':Int)∈l') 0 ⟨by omega,λi' l h=>by omega⟩ (body:=?_)
 rintro i ⟨hi,hall⟩;refine go ?_;refine ay rfl (λh2=>?_) (λh2=>?_)
 ·refine go ?_;refine aU (ax aa) (next:=λ_ _ l (vl:Value) nP=>?_);have hl1:=hll l (aP nP);refine go ?_;refine aR (λk=>l.length - k) (λk:Nat=>[(19,.int .i64 (k:Int))]) (λ_=>[]) (λ_=>[])
   (λk=>k<=l.length/\∀(k':Nat) n,k'<k->l[k']? =some n->0<=n/\n<g.length/\n≠i/\(∀m,0<k'->l[k' - 1]? =some m->m<n)/\∀l',g[n.toNat]? =some l'->(i:Int)∈l') 0 ⟨by omega,λk' n h=>by omega⟩ (body:=?_)
  rintro k ⟨hk,hin⟩;refine go ?_;refine ay rfl (λh3=>?_) (λh3=>?_)
  ·refine go ?_;intro _ _ n hn;have hbad:∀(_:¬(0<=n/\n<g.length/\n≠i/\(∀m,0<k->l[k - 1]? =some m->m<n)/\∀l',g[n.toNat]? =some l'->(i:Int)∈l')),¬gX g:=λh hG=>h (hG.ok i l nP k n hn);refine gG (λh4=>?_) (λh4=>?_)
   rotate_left
   ·refine go ?_;exact ae false (hv:=rfl) (hp:=⟨(λh=>by cases h),λhG=>absurd hG (hbad (λh=>by omega))⟩)
   refine go ?_;refine gG (λh5=>?_) (λh5=>?_)
   rotate_left
   ·refine go ?_;exact ae false (hv:=rfl) (hp:=⟨(λh=>by cases h),λhG=>absurd hG (hbad (λh=>by omega))⟩)
   refine go ?_;refine gG (λh6=>?_) (λh6=>?_)
   rotate_left
   ·refine go ?_;exact ae false (hv:=rfl) (hp:=⟨(λh=>by cases h),λhG=>absurd hG (hbad (λh=>by omega))⟩)
   refine go ?_;obtain⟨n,rfl⟩:=dZ (show 0<=n by omega);refine gG (λh7=>?_) (λh7=>?_)
   ·have AV:∀m,0<k->l[k - 1]? =some m->m<(n:Int):=λm hm=>by omega
    refine go ?_;refine aU (ax aa) (next:=λ_ _ l' (NS:Value) hl'=>?_);have AX:=hll l' (aP hl');refine go ?_;refine aj (UT (xs:=l') AX) (next:=λ_ _=>?_);refine go ?_;refine eX rfl (λh9=>?_) (λh9=>?_)
    ·refine go ?_;exact ae false (hv:=rfl) (hp:=⟨(λh=>by cases h),λhG=>absurd hG (hbad (λh=>h9 (h.2.2.2.2 l' (by simpa using hl'))))⟩)
    refine go ?_;refine aD (k+1) (by omega) ⟨by omega,λk' m hk' hm=>?_⟩;by_cases e:k'=k
    ·subst e;rw[hn]at hm;cases hm;refine⟨by omega,by omega,h6,AV,λl2 hl2=>?_⟩;rw[ku]at hl2;rw[hl2]at hl';cases hl';exact h9
    ·exact hin k' m (by omega) hm
   refine go ?_;obtain⟨k,rfl⟩:∃k',k=k'+1:=⟨k - 1,by omega⟩
   intro _ _ m hm;rw[show(((k+1:Nat):Int) - 1).toNat=k by omega]at hm;refine gG (λh8=>?_) (λh8=>?_)
   ·have AV:∀u,0<k+1->l[k+1 - 1]? =some u->u<(n:Int):=λu _ hu=>by
     rw[Kt,hm]at hu;cases hu;omega
    refine go ?_;refine aU (ax aa) (next:=λ_ _ l' (NS:Value) hl'=>?_);have AX:=hll l' (aP hl');refine go ?_;refine aj (UT (xs:=l') AX) (next:=λ_ _=>?_);refine go ?_;refine eX rfl (λh9=>?_) (λh9=>?_)
    ·refine go ?_;exact ae false (hv:=rfl) (hp:=⟨(λh=>by cases h),λhG=>absurd hG (hbad (λh=>h9 (h.2.2.2.2 l' (by simpa using hl'))))⟩)
    refine go ?_;refine aD (k+1+1) (by omega) ⟨by omega,λk' m hk' hm=>?_⟩;by_cases e:k'=k+1
    ·subst e;rw[hn]at hm;cases hm;refine⟨by omega,by omega,h6,AV,λl2 hl2=>?_⟩;rw[ku]at hl2;rw[hl2]at hl';cases hl';exact h9
    ·exact hin k' m (by omega) hm
   refine go ?_;refine ae false (hv:=rfl) (hp:=⟨(λh=>by cases h),λhG=>absurd hG (hbad (λh=>by have:=h.2.2.2.1 m (by omega) (by rw[Kt];exact hm);omega))⟩)
  refine go ?_;refine aD (i+1) (by omega) ⟨by omega,λi' l2 hi' hl2=>?_⟩;by_cases e:i'=i
  ·subst e;rw[nP]at hl2;cases hl2;exact λk' n hn=>hin k' n (by have:=(bK.1 hn).1;omega) hn
  ·exact hall i' l2 (by omega) hl2
 refine go ?_;refine ae true (hv:=rfl) (hp:=⟨λ_=>⟨by omega,λi' l hl=>hall i' l (by have:=(bK.1 hl).1;omega) hl⟩,λ_=>rfl⟩)
theorem UU{vg vs:Value}{g:List (List Int)}{sets:List (List Bool)}(hll:∀l∈g,l.length<9223372036854775808)(hsl:sets.length<9223372036854775808):aV Tryz.prog (.func 50) [vg,vs] [] [] [ah (ax aa) vg g,ah (ax lC) vs sets] (λr:Int=>.int .i64 r) (λ_=>[]) (λ_=>[])
 (λr=>(r=0↔gX g/\∀s∈sets,s.length=g.length)):=by
 refine aC _ (aF 50) λB w0=>?_;refine go ?_;refine aj (aew hll) (next:=λb hb=>?_);cases b with
 |false=>
  refine go ?_;exact ae 120 (hv:=rfl) (hp:=⟨(λh=>by cases h),λh=>absurd (hb.2 h.1) (by simp)⟩)
 |true=>
  have hG:=hb.1 rfl;refine go ?_;refine aR (λk=>sets.length - k) (λk:Nat=>[(15,.int .i64 (k:Int))]) (λ_=>[]) (λ_=>[]) (λk=>k<=sets.length/\∀s∈sets.take k,s.length=g.length) 0 ⟨by omega,by simp⟩ (body:=?_);rintro k ⟨hk,hall⟩;refine go ?_;refine ay rfl (λh1=>?_) (λh1=>?_)
  ·refine go ?_;refine aU (ax lC) (next:=λ_ _ s (v:Value) hs=>?_);refine go ?_;refine ay rfl (λh2=>?_) (λh2=>?_)
   ·refine go ?_;exact ae 1 (hv:=rfl) (hp:=⟨(λh=>by cases h),λh=>absurd (h.2 s (aP hs)) (λe=>h2 (by rw[e]))⟩)
   refine go ?_;refine aD (k+1) (by omega) ⟨by omega,λs' hs'=>?_⟩;rw[take_one hs]at hs';rcases dB.1 hs' with h|h
   ·exact hall s' h
   ·rw[bM.1 h];omega
  refine go ?_;have:k=sets.length:=by omega
  subst this;rw[bC]at hall;exact ae 0 (hv:=rfl) (hp:=⟨λ_=>⟨hG,hall⟩,λ_=>rfl⟩)
set_option maxHeartbeats 2000000
open Go.Ideal Gph
theorem JB(m:Nat):zeros [.bool false] m=(List.replicate m false).map Value.bool:=by rw[EK,List.map_replicate]
theorem aex{B:List Nat}{w0:Wd}{kl kl':List OA}{F:List aL}{Q:IH->Prop}{b:Nat}{z:Int}(hk:aA (pt b (.cells [.int .i64 z])) kl kl')(h:R Q B w0 (ap aa (.slice (some ⟨b,0,some 0⟩) 1 1) [z]::kl') F):R Q B w0 kl F:=λw s=>
 h w ((s.fZ hk).Ai λS hp=>.inr ⟨b,0,0,_,rfl,.inl rfl,hp.1,hp.2,rfl,λk x hk=>by
  match k,hk with
  |0,hk=>cases hk;exact⟨(),λj u hj=>by simpa[aa]using hj,λf hf=>by cases hf⟩⟩)
theorem aey{b3 b4 b5:Nat}{vg iP:Value}{g:List (List Int)}{ak:List Bool}{s0:Int}(hG:gX g)(hll:∀l∈g,l.length<9223372036854775808)(hin:ak.length=g.length)(hs:0<=s0/\s0<g.length):
 Cw Tryz.prog (λx:Int=>.int .i64 x) (.func 158) [] [ptr' b3,ptr' b5,ptr' b4] [bZ b3 0 [vg],bZ b5 0 [.int .i64 s0],bZ b4 0 [iP],ah (ax aa) vg g,ah lC iP ak] (xz g ak s0):=by
 intro S inv ok step t0 qF y1 y2 F' h0 hok hy;dsimp only[List.cons_append,List.nil_append];refine aC _ (aF 158) λB w0=>?_;have hlen:=hG.len;obtain⟨s0,rfl⟩:=dZ hs.1;refine go ?_;refine Am g.length ⟨by omega,by omega,by omega⟩ λb11=>?_;rw[JB];refine go ?_;refine pg (o:=0+s0*1) (cs:=(List.replicate g.length false).map Value.bool) (v:=.bool true) (cs':=(lG g.length s0).map Value.bool) (by rw[lG,DT];simp) (by simp;omega) ?_;refine go ?_;intro bq;refine aex (b:=bq) (z:=(s0:Int)) .here ?_;refine aR (λx=>x.1) (λx:Nat×List Bool×List Int×Value×S=>[(6,x.2.2.2.1)]) (λx=>pt b11 (.cells (x.2.1.map Value.bool))::ap aa x.2.2.2.1 x.2.2.1::inv x.2.2.2.2) (λ_=>[])
  (λx=>x.1<=g.length+1/\left x.2.1+x.2.2.1.length<=x.1/\x.2.1.length=g.length/\(∀n∈x.2.2.1,0<=n/\n<g.length)/\∃j,ok j x.2.2.2.2/\gq step x.2.2.2.2 (qI g ak x.1 x.2.1 x.2.2.1)=gq step t0 (xz g ak s0)/\qI g ak x.1 x.2.1 x.2.2.1=(xz g ak s0).drop j)
  (g.length+1,lG g.length s0,[(s0:Int)],.slice (some ⟨bq,0,some 0⟩) 1 1,t0) ⟨bU _,?_,?_,?_,0,h0,rfl,rfl⟩ (body:=?_)
 ·show left (lG g.length s0)+1<=g.length+1;have:left (lG g.length s0)<=(lG g.length s0).length:=DK _ _;have h:(lG g.length s0).length=g.length:=by rw[lG,um,PK]
  rw[h]at this;omega
 ·show(lG g.length s0).length=g.length;rw[lG,um,PK]
 ·intro n hn;rw[bM.1 hn];omega
 rintro⟨f,met,queue,qv,s⟩ ⟨hfg,hf,hml,hq,j,hos,hrun,hdrop⟩;dsimp only at hfg hf hml hq hos hrun hdrop⊢;refine go ?_;refine ay rfl (λh1=>?_) (λh1=>?_)
 ·obtain⟨q0,qs,rfl⟩:∃q0 qs,queue=q0::qs:=by
   cases queue with
   |nil=>simp at h1
   |cons a b=>exact⟨a,b,rfl⟩
  obtain⟨f,rfl⟩:∃f',f=f'+1:=⟨f - 1,by simp at hf;omega⟩
  obtain⟨q0,rfl⟩:=dZ (hq q0 (by simp)).1;have hq0:=hq q0 (by simp);rw[qI,ku]at hrun hdrop;have hj:=head_drop hdrop;refine go ?_;refine MK 0 (q0:Int) rfl λ_ _=>?_;refine aj (hy j s q0 hos hj.1) (next:=λ_ _=>?_);rw[gq]at hrun;cases hst:step s q0 with
  |mk s' b=>
  rw[hst]at hrun;cases b with
  |false=>
   dsimp only at hrun;refine go ?_;exact ae () (hv:=rfl) (hp:=trivial) (hk:=by rw[<- hrun];exact aJ.self _ _)
  |true=>
  dsimp only at hrun;have aez:ok (j+1) s':=by have:=hok j s q0 hos hj.1 (by rw[hst]);rw[hst]at this;exact this
  refine go ?_;refine MK 0 (q0:Int) rfl λ_ _=>?_;refine aU (ax aa) (next:=λ_ _ ns (vl:Value) hns=>?_);have hnl:=hll ns (aP hns);have hnr:∀n∈ns,0<=n/\n<(g.length:Int):=λn hn=>by
   obtain⟨k,hk⟩:=nA hn;have:=hG.ok q0 ns hns k n hk;exact⟨this.1,this.2.1⟩
  have hgd:g.getD q0 []=ns:=by rw[uo,hns];rfl
  rw[hgd]at hrun hdrop hj;obtain⟨i1,i2,i4,t,i5,i3⟩:=Jb (g:=g) (ak:=ak) ns met ((q0:Int)::qs) hml hnr;refine go ?_;refine aR (λx=>ns.length - x.1) (λx:Nat×List Bool×List Int×Value=>[(35,.int .i64 (x.1:Int)),(6,x.2.2.2)]) (λx=>[pt b11 (.cells (x.2.1.map Value.bool)),ap aa x.2.2.2 x.2.2.1]) (λ_=>[])
   (λx=>x.1<=ns.length/\x.2.1.length=g.length/\inner ak (ns.drop x.1) x.2.1 x.2.2.1=inner ak ns met ((q0:Int)::qs)/\left x.2.1+x.2.2.1.length=left met+((q0:Int)::qs).length) (0,met,(q0:Int)::qs,qv) ⟨bJ _,hml,rfl,rfl⟩ (body:=?_)
  rintro⟨k,met',q',UW⟩ ⟨hk,FB,hin',hl'⟩;dsimp only at hk FB hin' hl'⊢;refine go ?_;refine ay rfl (λh2=>?_) (λh2=>?_)
  ·refine go ?_;intro _ _ n hn;have hn0:=hnr n (aP hn);obtain⟨n,rfl⟩:=dZ hn0.1;have hdk:ns.drop k=(n:Int)::ns.drop (k+1):=by
    obtain⟨hlt,he⟩:=bK.1 hn;rw[nR hlt,he]
   rw[hdk,inner]at hin';refine go ?_;intro _ _ c hc;have hc':cO ak n=c:=by unfold cO;rw[ku,uo,hc];rfl
   rw[hc']at hin';refine gG (λh3=>?_) (λh3=>?_)
   ·subst h3;rw[if_neg (by simp)]at hin';refine go ?_;exact aD (k+1,met',q',UW) (by show ns.length - (k+1)<ns.length - k;omega) ⟨by show k+1<=_;omega,FB,hin',hl'⟩
   subst h3;have hnm:n<met'.length:=by omega
   refine go ?_;refine qG (o:=0+n*1) (cs:=met'.map Value.bool) (.bool met'[n]) (by rw[fC,wy,fw,bN hnm];rfl) ?_;have hm':cO met' n=met'[n]:=by unfold cO;rw[ku,uo,bN hnm];rfl
   rw[hm',Bool.true_and]at hin';cases hmv:met'[n]with
   |true=>
    rw[hmv,if_neg (by simp)]at hin';refine go ?_;exact aD (k+1,met',q',UW) (by show ns.length - (k+1)<ns.length - k;omega) ⟨by show k+1<=_;omega,FB,hin',hl'⟩
   |false=>
    rw[hmv,if_pos (by simp),ku]at hin';have hls:=Ng (met:=met') (n:=n) (by rw[bN hnm,hmv]);refine go ?_;refine pg (o:=0+n*1) (cs:=met'.map Value.bool) (v:=.bool true) (cs':=(met'.set n true).map Value.bool) (by rw[DT];simp) (by simp;omega) ?_;refine go ?_;intro b10;refine eG (xs:=q') aa (n:Int) () (by simp only[oV]at hl' hf;omega) (next:=λad=>?_);refine go ?_;refine aD (k+1,met'.set n true,q'++[(n:Int)],_) (by show ns.length - (k+1)<ns.length - k;omega) ⟨by show k+1<=_;omega,by show(met'.set n true).length=_;rw[um];exact FB,hin',?_⟩;show left (met'.set n true)+(q'++[(n:Int)]).length=_;rw[gU,uh];omega
  have hkn:k=ns.length:=by omega
  subst hkn;rw[Gn,inner]at hin';rw[<- hin']at i1 i2 i4 i5 hrun hdrop hj;dsimp only at i1 i2 i4 i5 hrun hdrop hj;rw[dW]at i5;subst i5;rw[List.tail_cons]at hrun hj;refine go ?_;refine ab5 aa (q:=(q0:Int)) (qs:=qs++t) (λad=>?_);refine go ?_;refine aD (f,met',qs++t,_,s') (uX f) ⟨by show f<=_;omega,?_,FB,?_,j+1,aez,hrun,hj.2⟩
  ·show left met'+(qs++t).length<=f;simp only[oV,gU]at hl' hf⊢;omega
  ·intro n hn;rcases dB.1 hn with h|h
   ·exact hq n (by simp[h])
   ·exact hnr n ((i3 n).1 h).1
 have hnil:queue=[]:=by
  cases queue with
  |nil=>rfl
  |cons a b=>simp at h1
 subst hnil;have hb:qI g ak f met []=[]:=by cases f<;>rfl
 rw[hb,gq]at hrun;refine go ?_;exact ae () (hv:=rfl) (hp:=trivial) (hk:=by rw[<- hrun];exact .there _ (.there _ (aJ.all _)))
theorem gX.rg{g:List (List Int)}(h:gX g):∀l∈g,∀n∈l,Rg g n:=λl hl n hn=>by
 obtain⟨i,hi⟩:=nA hl;obtain⟨k,hk⟩:=nA hn;have:=h.ok i l hi k n hk;exact⟨this.1,this.2.1⟩
theorem aeA{vg iP:Value}{g:List (List Int)}{ak:List Bool}{s:Int}:aV Tryz.prog (.func 112) [vg,iP,.int .i64 s] [] [] [ah (ax aa) vg g,ah lC iP ak]
 (λy:Nat×Nat×Nat=>.func (.func 158) #[] #[ptr' y.1,ptr' y.2.2,ptr' y.2.1]) (λ_=>[]) (λy=>[bZ y.1 0 [vg],bZ y.2.1 0 [iP],bZ y.2.2 0 [.int .i64 s],ah (ax aa) vg g,ah lC iP ak]) (λ_=>True):=by
 refine aC _ (aF 112) λB w0=>?_;refine aT (E:=ax aa) (v:=vg) (xs:=g) (by simp) λa1 c1 e1=>?_;refine aT (E:=lC) (v:=iP) (xs:=ak) (by simp) λa2 c2 e2=>?_;subst e1 e2;refine go ?_;intro b3 b4 b5;refine aW (eB (b:=b3)) (h:=?_);refine aW (eB (b:=b4)) (h:=?_);refine aW (eB (b:=b5)) (h:=?_);exact ae (b3,b4,b5) (hv:=rfl) (hp:=trivial)
theorem aeB(m:Nat):zeros [.int .i64 0] m=(List.replicate m (0:Int)).map (Value.int .i64):=by rw[EK,List.map_replicate]
theorem UX{S α:Type}(f:S->α->S):∀(xs:List α) (s:S),iO (λs x=>(f s x,Out.normal)) s xs=(xs.foldl f s,.normal)
 |[],s=>rfl
 |x::xs,s=>by rw[iO];exact UX f xs (f s x)
abbrev zl(b n:Nat):Value:=.slice (some ⟨b,0,some 0⟩) n n
theorem UY{vg iP:Value}{g:List (List Int)}{ak:List Bool}(hG:gX g)(hll:∀l∈g,l.length<9223372036854775808)(hin:ak.length=g.length):
 aV Tryz.prog (.func 51) [vg,iP] [] [] [ah (ax aa) vg g,ah lC iP ak] (λb:Nat=>.tuple ⟨[zl b g.length,.int .i64 ((eZ g ak g.length).2:Int)]⟩)
  (λb=>[pt b (.cells ((eZ g ak g.length).1.map (.int .i64)))]) (λ_=>[]) (λ_=>True):=by
 refine Cx _ (aF 51) λB w0=>?_;have hlen:=hG.len;refine go ?_;intro b4 b5;refine Am g.length ⟨by omega,by omega,by omega⟩ λbp=>?_;rw[aeB];refine go ?_;refine ab8 ?_;refine ace (λx=>x.2.map MM) (λx=>g.length - x.1) (λx:Nat×List Nat=>[(13,.int .i64 (x.1:Int))])
  (λx=>[Cy x.2,pt b4 (.cells [zl bp g.length]),pt b5 (.cells [.int .i64 ((eZ g ak x.1).2:Int)]),pt bp (.cells ((eZ g ak x.1).1.map (.int .i64)))]) (λ_=>[]) (λx=>x.1<=g.length) (0,[]) (bJ _)
  (hk:=by repeat (first|exact aJ.nil|(apply aJ.cons;(focus (repeat (first|exact aA.here|apply aA.there)))))) (body:=?_)
 rintro⟨k,rs⟩ hk;dsimp only at hk⊢;have hpk:=Jd g ak k;have hst:=Jc g ak k;refine go ?_;refine ay rfl (λh1=>?_) (λh1=>?_)
 ·refine go ?_;intro _ _ c hc;have hc':cO ak (k:Nat)=c:=by unfold cO;rw[ku,uo,hc];rfl
  have hkl:k<(eZ g ak k).1.length:=by omega
  have same:¬(cO ak (k:Nat)=true/\(eZ g ak k).1.getD k 0<=0)->eZ g ak (k+1)=eZ g ak k:=λh=>by rw[hst,Az,if_neg h]
  have hgd:(eZ g ak k).1.getD k 0=(eZ g ak k).1[k]:=by rw[uo,bN hkl];rfl
  refine go ?_;refine gG (λh2=>?_) (λh2=>?_)
  ·have hct:c=true:=by simpa using h2
   refine go ?_;refine qG (o:=0+k*1) (cs:=(eZ g ak k).1.map (.int .i64)) (.int .i64 (eZ g ak k).1[k]) (by rw[fC,wy,fw,bN hkl];rfl) ?_;refine go ?_;refine ay rfl (λh3=>?_) (λh3=>?_)
   ·have e:=same (λh=>by rw[hgd]at h;omega);refine go ?_;exact MO (k+1,rs) (by show g.length - (k+1)<g.length - k;omega) (by show k+1<=_;omega) (ha:=by dsimp only;rw[e];repeat (first|exact aY.nil|apply aY.cons|exact aY.self|exact aY.app))
   refine go ?_;refine aj (aeA (g:=g) (ak:=ak) (s:=(k:Int))) (next:=λy _=>?_);refine go ?_;have hkr:Rg g (k:Int):=⟨by omega,by omega⟩
   have hrr:=TF (ak:=ak) hG.rg hkr;have hstep:eZ g ak (k+1)=(xA (eZ g ak k).1 (xz g ak k) ((eZ g ak k).2+1:Nat),(eZ g ak k).2+1):=by
    rw[hst,Az,if_pos ⟨by rw[hc',hct],by rw[hgd];omega⟩]
   refine Sj (val:=λx:Int=>.int .i64 x) (λ(p:List Int) (n:Int)=>(p.set n.toNat (((eZ g ak k).2:Int)+1),Out.normal))
    (λp=>[pt b4 (.cells [zl bp g.length]),pt b5 (.cells [.int .i64 (((eZ g ak k).2:Int)+1)]),pt bp (.cells (p.map (.int .i64)))]) (λ_ p=>p.length=g.length) (eZ g ak k).1 hpk.1 (λk s x hs hx _=>by simp[hs])
    (aey (b3:=y.1) (b5:=y.2.2) (b4:=y.2.1) (s0:=(k:Int)) hG hll hin ⟨by omega,by omega⟩) (hb:=?_) (next:=?_) (iY:=λs x=>trivial)
   ·intro j p n lo L B w0 hp hn;have hnr:=hrr n (aP hn);unfold Rg at hnr;obtain⟨n,rfl⟩:=dZ hnr.1;refine go ?_;refine pg (o:=0+n*1) (cs:=p.map (.int .i64)) (v:=.int .i64 (((eZ g ak k).2:Int)+1)) (cs':=(p.set ((n:Int).toNat) (((eZ g ak k).2:Int)+1)).map (.int .i64)) (by rw[DT];simp) (by simp;omega) ?_;refine go ?_;exact w9 () rfl trivial trivial
   ·intro r;rw[UX];dsimp only[List.cons_append,List.nil_append];refine go ?_;refine ab9 (rs:=rs) (r:=r) (h:=?_);have e1:((xz g ak (k:Nat)).foldl (λ(p:List Int) (n:Int)=>p.set n.toNat (((eZ g ak k).2:Int)+1)) (eZ g ak k).1)=(eZ g ak (k+1)).1:=by rw[hstep];rfl
    have e2:(((eZ g ak k).2:Int)+1)=((eZ g ak (k+1)).2:Int):=by rw[hstep];rfl
    rw[e1,e2];exact MO (k+1,r::rs) (by show g.length - (k+1)<g.length - k;omega) (by show k+1<=_;omega)
  ·have hcf:c=false:=by simpa using h2
   have e:=same (λh=>by rw[hc',hcf]at h;cases h.1);refine go ?_;exact MO (k+1,rs) (by show g.length - (k+1)<g.length - k;omega) (by show k+1<=_;omega) (ha:=by dsimp only;rw[e];repeat (first|exact aY.nil|apply aY.cons|exact aY.self|exact aY.app))
 have hkl:k=g.length:=by omega
 subst hkl;refine go ?_;exact acd (rs:=rs) bp (hv:=rfl) (hp:=trivial)
