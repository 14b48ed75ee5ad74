/-
  The library's sort of numbers, by the contract of the kit's shelf.
-/
import Derived.Test.YtpkieeggilkagaaGreatShelf
import Derived.Test.YtpkieeggilkagaaGreatIdealO
import Derived.Test.YtpkieeggilkagaaGreatLibE
import Derived.Test.YtpkieeggilkagaaGreatPlainB
import Derived.Test.YtpkieeggilkagaaGreatIdealM
set_option linter.unusedSimpArgs false
set_option linter.unusedVariables false
set_option maxRecDepth 10000
namespace Go.Proofs.YtpkieeggilkagaaGreat
open Go.Ideal
noncomputable def zI8:=cod Tryz.prog 249
theorem f_sortI:enF Tryz.prog 249=some zI8:=by kernel_rfl
theorem srt:zEr Tryz.prog 249:=fun blk off cap zs w h1 h2 h3=>Any.slices_Sort_int Tryz.lays189 blk off cap zs w h1 h2 h3
end Go.Proofs.YtpkieeggilkagaaGreat
set_option maxHeartbeats 4000000
namespace Go.Proofs.YtpkieeggilkagaaGreat
open Go.Ideal Kd
noncomputable def zM7:=cod Tryz.prog 245
theorem f_cloI:enF Tryz.prog 245=some zM7:=by kernel_rfl
noncomputable def zIs:=cod Tryz.prog 184
theorem f_gMake:enF Tryz.prog 184=some zIs:=by kernel_rfl
theorem zQx{x:Int}:FnP Tryz.prog 203 [.int .i64 x] [] (.bool false):=by
 refine zE _ (isC 203) fun B w0=>?_;refine go ?_;refine q_fin () (hv:=?_) (hp:=trivial);rw[decide_eq_false (fun h=>h rfl)];rfl
theorem zRm{x:Int}:FnP Tryz.prog 268 [.int .i64 x] [] (.bool false):=by
 refine zE _ (isC 268) fun B w0=>?_;refine go ?_;refine q_fin () (hv:=?_) (hp:=trivial);rw[decide_eq_false (fun h=>h rfl)];rfl
theorem zO9{x y:Int}:FnP Tryz.prog 267 [.int .i64 x,.int .i64 y] [] (.bool (decide (x<y))):=by
 refine zE _ (isC 267) fun B w0=>?_;refine go ?_;refine zA (zQx (x:=x)) (next:=fun _ _=>?_);refine go ?_;exact q_fin () (hv:=rfl) (hp:=trivial)
def zQh(xs:List Int)(z:Int)(y:Nat×Bool):Prop:=y.1≤xs.length∧(∀(j:Nat) x,j<y.1→xs[j]? =some x→x<z)∧(∀(j:Nat) x,y.1≤j→xs[j]? =some x→z≤x)∧(y.2=true↔xs[y.1]? =some z)
theorem zQh.mem{xs:List Int}{z:Int}{y:Nat×Bool}(h:zQh xs z y)(hs:xs.Pairwise (·<·)):y.2=true↔z∈xs:=by
 obtain⟨h1,h2,h3,h4⟩:=h;rw[h4];refine⟨fun h=>List.mem_of_getElem? h,fun h=>?_⟩;obtain⟨j,hj⟩:=List.mem_iff_getElem?.1 h;have hjl:=(List.getElem?_eq_some_iff.1 hj)
 rcases Nat.lt_trichotomy j y.1 with h5|h5|h5
 ·have:=h2 j z h5 hj;omega
 ·rw[← h5];exact hj
 ·have hyl:y.1<xs.length:=by have:=hjl.1;omega
  have hy:xs[y.1]? =some xs[y.1]:=List.getElem?_eq_getElem hyl;have h6:=h3 y.1 _ (Nat.le_refl _) hy;have h7:=List.pairwise_iff_getElem.1 hs y.1 j hyl hjl.1 h5;rw[hjl.2]at h7;omega
theorem zQU{v:Value}{xs:List Int}{z:Int}(hl:xs.length<4611686018427387904)(hs:xs.Pairwise (·≤·)):
 FnC Tryz.prog (.func 246) [v,.int .i64 z] [] [] [fSl intE v xs] (fun y:Nat×Bool=>.tuple ⟨[.int .i64 (y.1:Int),.bool y.2]⟩) (fun _=>[]) (fun _=>[]) (zQh xs z):=by
 refine zE _ (isC 246) fun B w0=>?_;refine go ?_;refine zH (fun y:Nat×Nat=>y.2 - y.1) (fun y=>[(7,.int .i64 (y.1:Int)),(8,.int .i64 (y.2:Int))]) (fun _=>[]) (fun _=>[]) (fun y=>y.1≤y.2∧y.2≤xs.length∧(∀(j:Nat) x,j<y.1→xs[j]? =some x→x<z)∧(∀(j:Nat) x,y.2≤j→xs[j]? =some x→z≤x)) (0,xs.length) ⟨Nat.zero_le _,Nat.le_refl _,fun j x hj=>by omega,fun j x hj hx=>by have:=(List.getElem?_eq_some_iff.1 hx).1;omega⟩ (body:=?_);rintro⟨a,b⟩ ⟨hab,hb,hlo,hhi⟩;dsimp only at hab hb hlo hhi⊢;refine go ?_;refine if_d rfl (fun h1=>?_) (fun h1=>?_)
 ·have hav:a≤(a+b)>>>1∧(a+b)>>>1<b:=by
   rw[Nat.shiftRight_eq_div_pow];omega
  generalize hm:(a+b)>>>1=m at hav;refine go ?_;rw[show(a:Int)+(b:Int)=((a+b:Nat):Int)by omega];refine(d_p rfl rfl (zFT (k:=.u64) (m:=((a+b:Nat):Int)) (by kernel_rfl:Tryz.prog.underlying 3=some (.int .i64)) (by kernel_rfl) rfl (zTY (by omega)))).h ?_;refine(d_p rfl rfl (zP4 (a:=a+b) (b:=1) rfl rfl (by omega))).h ?_;rw[hm];refine(d_p rfl rfl (zFT (k:=.i64) (m:=(m:Int)) (by kernel_rfl:Tryz.prog.underlying 178=some (.int .u64)) (by kernel_rfl) rfl (wrapN (by omega)))).h ?_;refine go ?_;intro _ _ x hx;refine go ?_;refine zA (zO9 (x:=x) (y:=z)) (next:=fun _ _=>?_);refine go ?_;have hle:∀(i j:Nat) u v,i≤j→xs[i]? =some u→xs[j]? =some v→u≤v:=by
   intro i j u v hij hu hv;by_cases e:i=j
   ·subst e;rw[hu]at hv;injection hv with hv;omega
   ·exact List.pairwise_iff_getElem.1 hs i j (List.getElem?_eq_some_iff.1 hu).1 (List.getElem?_eq_some_iff.1 hv).1 (by omega)|>fun h=>by
     rw[(List.getElem?_eq_some_iff.1 hu).2,(List.getElem?_eq_some_iff.1 hv).2]at h;exact h
  refine if_d rfl (fun h2=>?_) (fun h2=>?_)
  ·refine go ?_;refine zB (m+1,b) (by show b - (m+1)<b - a;omega) ⟨by show m+1≤b;omega,hb,fun j u hj hu=>?_,hhi⟩;have:=hle j m u x (by show j≤m;have:j<m+1:=hj;omega) hu hx;omega
  ·refine go ?_;refine zB (a,m) (by show m - a<b - a;omega) ⟨by show a≤m;omega,by show m≤_;omega,hlo,fun j u hj hu=>?_⟩;have:=hle m j x u hj hx hu;omega
 have hba:b=a:=by omega
 subst hba;refine go ?_;first|with_reducible refine g_d (fun h2=>?_) (fun h2=>?_)|with_reducible refine g_n (fun h2=>?_) (fun h2=>?_)|with_reducible refine g_b (fun h2=>?_) (fun h2=>?_)
 ·have hn:xs[b]? =none:=List.getElem?_eq_none (by omega);refine go ?_;exact q_fin (b,false) (hv:=rfl) (hp:=⟨by show b≤_;omega,hlo,hhi,by show false=true↔xs[b]? =some z;rw[hn];simp⟩)
 refine go ?_;intro _ _ x hx;refine go ?_;by_cases hxz:x=z
 ·subst hxz;rw[decide_eq_true rfl];refine go ?_;exact q_fin (b,true) (hv:=rfl) (hp:=⟨by show b≤_;omega,hlo,hhi,by show true=true↔xs[b]? =some x;simp[hx]⟩)
 ·rw[decide_eq_false hxz];refine go ?_;intro _ _ x2 hx2;refine go ?_;refine zA (zRm (x:=x2)) (next:=fun _ _=>?_);refine go ?_;exact q_fin (b,false) (hv:=rfl) (hp:=⟨by show b≤_;omega,hlo,hhi,by show false=true↔xs[b]? =some z;rw[hx];simp[hxz]⟩)
theorem zNO{v:Value}{xys:List (Int×intE.Y)}(hl:xys.length≤4096):FnC Tryz.prog (.func 245) [v] [] [] [fEl intE v xys] (fun v':Value=>v') (fun v'=>[ar intE v' xys]) (fun _=>[]) (fun _=>True):=by
 refine zE zM7 f_cloI fun B w0=>?_;refine zGm (v:=v) (xys:=xys) intE (fun e c ev=>?_) (fun e i o f c ev=>?_) (fun hne i o f c ev=>?_)
 ·subst e ev;refine go ?_;refine(d_p rfl rfl (zJi (e:=3) (by kernel_rfl) rfl)).h ?_;refine go ?_;refine zLg intE ?_;exact q_fin (.slice none 0 0) (hv:=rfl) (hp:=trivial)
 ·subst e ev;refine go ?_;refine(d_p rfl rfl (zF3 (e:=3) (by kernel_rfl) rfl)).h ?_;refine go ?_;intro b;refine go ?_;refine zIb (b:=b) ?_;refine go ?_;refine zAL (b:=b) (m:=0) (f:=0) intE (xys:=[]) rfl (.inl rfl) ?_ (hk:=Sel.here);exact q_fin (.slice (some ⟨b,0,some 0⟩) 0 0) (hv:=rfl) (hp:=trivial)
 ·subst ev;refine go ?_;refine(d_p rfl rfl (zF3 (e:=3) (by kernel_rfl) rfl)).h ?_;refine go ?_;intro b;refine go ?_;refine zNU (b:=b) intE xys hne (by omega) (fun b'=>?_);refine go ?_;refine zAL (b:=b') (m:=xys.length) (f:=intE.n) intE (xys:=xys) rfl (.inr rfl) ?_ (hk:=Sel.here);exact q_fin (.slice (some ⟨b',0,some intE.n⟩) xys.length xys.length) (hv:=rfl) (hp:=trivial)
abbrev zM2:List Value:=[.int .i64 0,.int .i64 0,.int .i64 0,.slice none 0 0,.slice none 0 0]
abbrev zH2(g:Grd)(vh vc:Value):List Value:=[.int .i64 g.shape,.int .i64 g.w,.int .i64 g.h,vh,vc]
abbrev zLA(g:Grd)(vh vc:Value):List zJ:=[fSl intE vh g.holes,fSl intE vc g.cells]
structure MkY where
 ok:Bool
 vh:Value
 vc:Value
def mkG(s w h:Int)(holes:List Int):Grd:=⟨s,w,h,holes,zAJ w h holes⟩
abbrev mkV(s w h:Int)(holes:List Int)(y:MkY):Value:=.tuple ⟨[.agg ⟨cond y.ok (zH2 (mkG s w h holes) y.vh y.vc) zM2⟩,.int .i64 (cond y.ok 0 130)]⟩
abbrev mkF(s w h:Int)(holes:List Int)(y:MkY):List zJ:=cond y.ok (zLA (mkG s w h holes) y.vh y.vc) []
def zGv(xs:List Int):Int:=xs.getLast?.getD (-1)
theorem zIA(xs:List Int)(x:Int):zGv (xs++[x])=x:=by simp[zGv]
theorem zOd{xs:List Int}(h:∀x∈xs,0≤x): -1≤zGv xs:=by
 unfold zGv;cases hx:xs.getLast? with
 |none=>simp
 |some x=>
  have:=h x (List.mem_of_getLast? hx);simp only[Option.getD_some];omega
theorem zOE{xs:List Int}(h:xs.Pairwise (·<·)){a:Int}(ha:a∈xs):a≤zGv xs:=by
 unfold zGv;cases hx:xs.getLast? with
 |none=>rw[List.getLast?_eq_none_iff]at hx;subst hx;cases ha
 |some x=>
  obtain⟨ys,rfl⟩:=List.getLast?_eq_some_iff.1 hx;simp only[Option.getD_some];rcases List.mem_append.1 ha with h1|h1
  ·have:=(List.pairwise_append.1 h).2.2 a h1 x (List.mem_singleton.2 rfl);omega
  ·rw[List.mem_singleton.1 h1];exact Int.le_refl _
theorem zOV{xs:List Int}{k:Nat}{x:Int}(h:xs.Pairwise (·<·))(hx:xs[k]? =some x)(h0:0≤x):zGv (xs.take k)<x:=by
 unfold zGv;cases hl:(xs.take k).getLast? with
 |none=>simp only[Option.getD_none];omega
 |some y=>
  simp only[Option.getD_some];have hy:=List.mem_of_getLast? hl;have hd:xs=xs.take k++x::xs.drop (k+1):=by
   conv=>lhs;rw[← List.take_append_drop k xs]
   rw[List.drop_eq_getElem_cons (List.getElem?_eq_some_iff.1 hx).1,(List.getElem?_eq_some_iff.1 hx).2]
  rw[hd]at h;exact(List.pairwise_append.1 h).2.2 y hy x (List.mem_cons_self ..)
theorem zHB{s w h:Int}{holes:List Int}{vh:Value}(hw64:I64 w)(hh64:I64 h)(hl:holes.length<4611686018427387904):
 FnC Tryz.prog (.func 184) [.int .i64 s,.int .i64 w,.int .i64 h,vh] [] [] [fSl intE vh holes] (mkV s w h holes) (fun _=>[]) (mkF s w h holes) (fun y=>y.ok=true↔zBl s w h holes):=by
 have bad:¬zBl s w h holes→∀{B:List Nat} {w0:Wd} {kl:List OA} {F:List zJ} {l:List (Nat×Value)} {n b:Nat} {klr:List OA},lk l 8=ptr' b→lk l 9=.int .i64 130→Sel (pt b (.cells zM2)) kl klr→
  R (fun h0=>zR3 zIs (Go.Ideal.Left B w0 (mkV s w h holes) (fun _=>[]) (mkF s w h holes) (fun y=>y.ok=true↔zBl s w h holes)) .ret (act n l [] none none) h0) B w0 kl F:=by
  intro hno B w0 kl F l n b klr h8 h9 hk;refine zSq (klr:=kl) ⟨false,.nilFunc,.nilFunc⟩ (vs:=[.agg ⟨zM2⟩,.int .i64 130]) ?_ rfl ⟨(fun e=>by cases e),fun e=>absurd e hno⟩ .nil .nil (.inr rfl);show RS l kl [.cellN 5 8,.tmp 9] _;exact .cellN h8 hk rfl (.tmp h9 .nil)
 refine zE zIs f_gMake fun B w0=>?_;refine go ?_;intro b8;refine go ?_;by_cases hsh:s=1∨s=2
 rotate_left
 ·rw[decide_eq_true (show s≠1 from fun e=>hsh (.inl e))];refine go ?_;rw[decide_eq_true (show s≠2 from fun e=>hsh (.inr e))];refine go ?_;exact bad (fun h=>hsh h.sh) rfl rfl .here
 have hmk:∀sh,(sh=1∨sh=2)→(zBl sh w h holes↔zBl s w h holes):=fun sh e=>⟨fun q=>⟨hsh,q.wi,q.he,q.len,q.inc,q.mem⟩,fun q=>⟨e,q.wi,q.he,q.len,q.inc,q.mem⟩⟩
 have h22:∀{B:List Nat} {w0:Wd} {kl:List OA} {F:List zJ} {K:KO} {ds:List Tmp} {rest:List zQ} {n:Nat} {l:List (Nat×Value)} {D:List Deferred},
  R (fun h0=>OPS Tryz.prog ds rest (act n ((22,.bool false)::(21,.bool false)::l) D none none) h0 K) B w0 kl F→R (fun h0=>OPS Tryz.prog ds rest (act n ((22,.bool false)::(21,.bool false)::l) D none none) h0 K) B w0 kl F:=fun h=>h
 rcases hsh with rfl|rfl;all_goals
  refine go ?_;first|with_reducible refine g_d (fun a1=>?_) (fun a1=>?_)|with_reducible refine g_n (fun a1=>?_) (fun a1=>?_)|with_reducible refine g_b (fun a1=>?_) (fun a1=>?_)
  rotate_left
  ·refine go ?_;exact bad (fun q=>by have:=q.wi;omega) rfl rfl .here
  refine go ?_;first|with_reducible refine g_d (fun a2=>?_) (fun a2=>?_)|with_reducible refine g_n (fun a2=>?_) (fun a2=>?_)|with_reducible refine g_b (fun a2=>?_) (fun a2=>?_)
  rotate_left
  ·refine go ?_;exact bad (fun q=>by have:=q.wi;omega) rfl rfl .here
  refine go ?_;first|with_reducible refine g_d (fun a3=>?_) (fun a3=>?_)|with_reducible refine g_n (fun a3=>?_) (fun a3=>?_)|with_reducible refine g_b (fun a3=>?_) (fun a3=>?_)
  rotate_left
  ·refine go ?_;exact bad (fun q=>by have:=q.he;omega) rfl rfl .here
  refine go ?_;first|with_reducible refine g_d (fun a4=>?_) (fun a4=>?_)|with_reducible refine g_n (fun a4=>?_) (fun a4=>?_)|with_reducible refine g_b (fun a4=>?_) (fun a4=>?_)
  rotate_left
  ·refine go ?_;exact bad (fun q=>by have:=q.he;omega) rfl rfl .here
  have hwh:=zBk (w:=w) (h:=h) ⟨by omega,by omega⟩ ⟨by omega,by omega⟩;refine go ?_;refine if_d rfl (fun a5=>?_) (fun a5=>?_)
  ·refine go ?_;exact bad (fun q=>by have:=q.len;omega) rfl rfl .here
  refine go ?_;refine zH (fun k=>holes.length - k) (fun k:Nat=>[(49,.int .i64 (k:Int)),(10,.int .i64 (zGv (holes.take k)))]) (fun _=>[]) (fun _=>[]) (fun k=>k≤holes.length∧(holes.take k).Pairwise (·<·)∧∀x∈holes.take k,0≤x∧x<w*h) 0 ⟨Nat.zero_le _,by simp,by simp⟩ (body:=?_);rintro k ⟨hk,hinc,hmem⟩;refine go ?_;refine if_d rfl (fun a6=>?_) (fun a6=>?_)
  ·refine go ?_;intro _ _ x hx;refine go ?_;have hxm:=List.mem_of_getElem? hx;first|with_reducible refine g_d (fun a7=>?_) (fun a7=>?_)|with_reducible refine g_n (fun a7=>?_) (fun a7=>?_)|with_reducible refine g_b (fun a7=>?_) (fun a7=>?_)
   rotate_left
   ·refine go ?_;exact bad (fun q=>by
     have h1:=q.inc;have h2:=q.mem x hxm;have:=zOV h1 hx h2.1;omega) rfl rfl .here
   refine go ?_;refine if_d rfl (fun a8=>?_) (fun a8=>?_)
   ·refine go ?_;exact bad (fun q=>by have:=q.mem x hxm;omega) rfl rfl .here
   refine go ?_;have htk:holes.take (k+1)=holes.take k++[x]:=by rw[List.take_add_one,hx];rfl
   refine zB (k+1) (by omega) ⟨by omega,?_,?_⟩ (hl:=⟨rfl,by rw[htk,zIA];rfl,by repeat (first|exact trivial|refine⟨rfl,?_⟩)⟩)
   ·rw[htk,List.pairwise_append];refine⟨hinc,by simp,fun a ha b hb=>?_⟩;rw[List.mem_singleton.1 hb];have:=zOE hinc ha;omega
   ·rw[htk];intro z hz;rcases List.mem_append.1 hz with hz|hz
    ·exact hmem z hz
    ·rw[List.mem_singleton.1 hz];have:=zOd (fun y hy=>(hmem y hy).1);omega
  have hkl:k=holes.length:=by omega
  subst hkl;rw[List.take_length]at hinc hmem;have hok:∀s',(s'=1∨s'=2)→zBl s' w h holes:=fun s' hs'=>⟨hs',⟨by omega,by omega⟩,⟨by omega,by omega⟩,by omega,hinc,hmem⟩
  obtain⟨m,hm⟩:=Int.eq_ofNat_of_zero_le (show 0≤w*h by omega);have hmk2:zAJ w h holes=zo m holes:=by
   unfold zAJ;rw[hm];rfl
  refine go ?_;refine zI3 intE vh (fun xh hxh=>?_);have hxl:xh.length=holes.length:=by rw[← hxh,List.length_map]
  refine zA (zNO (xys:=xh) (by omega)) (next:=fun v1 _=>?_);refine zGs (E:=intE) (v:=v1) (xys:=xh) ?_ (fun w h p hp f hf=>by cases hf);rw[hxh];refine zR (E:=intE) (v:=v1) (xs:=holes) (by simp) fun a1 c1 e1=>?_;subst e1;refine go ?_;rw[hm];refine zAd intE ?_;refine zH (fun y:Nat×Option Addr=>m - y.1) (fun y=>[(75,.int .i64 (y.1:Int))]) (fun y=>[pt b8 (.cells [.int .i64 _,.int .i64 w,.int .i64 h,.slice a1 holes.length c1,.slice y.2 (zo y.1 holes).length (zo y.1 holes).length]),ap intE (.slice y.2 (zo y.1 holes).length (zo y.1 holes).length) (zo y.1 holes)]) (fun _=>[]) (fun y=>y.1≤m) (0,none) (Nat.zero_le _) (hk:=by repeat (first|exact SelL.nil|(apply SelL.cons;(focus (repeat (first|exact Sel.here|apply Sel.there)))))) (body:=?_);rintro⟨k,ad⟩ hk;dsimp only at hk⊢;have hcl:=zCg k holes;refine go ?_;refine if_d rfl (fun a9=>?_) (fun a9=>?_)
  ·refine go ?_;refine zA (zQU (xs:=holes) (z:=(k:Int)) hl (hinc.imp (fun h=>Int.le_of_lt h))) (next:=fun y hy=>?_);have hmm:=hy.mem hinc;clear hy;obtain⟨n,b⟩:=y;dsimp only at hmm;refine go ?_;cases b with
   |true=>
    refine go ?_;have e1:zo (k+1) holes=zo k holes:=by rw[zE6,if_pos (hmm.1 rfl),List.append_nil]
    rw[← e1];exact zB (k+1,ad) (by show m - (k+1)<m - k;omega) (by show k+1≤m;omega)
   |false=>
    have hnm:¬(k:Int)∈holes:=fun h=>by have:=hmm.2 h;cases this
    have e1:zo k holes++[(k:Int)]=zo (k+1) holes:=by rw[zE6,if_neg hnm]
    have e2:(zo k holes).length+1=(zo (k+1) holes).length:=by rw[← e1];simp
    refine go ?_;intro b89;refine go ?_;refine zAv intE (xs:=zo k holes) (k:Int) () (by omega) fun ad'=>?_;rw[e1,e2];refine go ?_;exact zB (k+1,ad') (by show m - (k+1)<m - k;omega) (by show k+1≤m;omega)
  have hkm:k=m:=by omega
  subst hkm;refine go ?_;refine zK z5 (A:=ap intE (.slice ad (zo k holes).length (zo k holes).length) (zo k holes)) (h:=?_);refine go ?_;refine q_fin ⟨true,.slice a1 holes.length c1,.slice ad (zo k holes).length (zo k holes).length⟩ (hv:=rfl) (hp:=⟨fun _=>hok _ (by first|exact .inl rfl|exact .inr rfl),fun _=>rfl⟩) (hF:=?_);show Sub [fSl intE _ holes,fSl intE _ (zAJ w h holes)] _;rw[hmk2];exact .cons (by simp) (.cons (by simp) .nil)
end Go.Proofs.YtpkieeggilkagaaGreat
namespace Go.Proofs.YtpkieeggilkagaaGreat
open Go.Ideal Kd
structure zP7(g:Grd):Prop where
 w:I64 g.w
 h:I64 g.h
 holes:g.holes.length<4611686018427387904
 cells:g.cells.length<4611686018427387904
theorem zLw{g:Grd}{vh vc:Value}(hS:zP7 g):
 FnC Tryz.prog (.func 247) [.agg ⟨zH2 g vh vc⟩] [] [] (zLA g vh vc) (fun e:Int=>.int .i64 e) (fun _=>[]) (fun _=>[]) (fun e=>e=0↔zAB g):=by
 refine zE _ (isC 247) fun B w0=>?_;refine go ?_;intro b1;refine go ?_;refine zA (zHB (s:=g.shape) (w:=g.w) (h:=g.h) (holes:=g.holes) (vh:=vh) hS.w hS.h hS.holes) (next:=fun y hy=>?_);obtain⟨ok,v1,v2⟩:=y;cases ok with
 |false=>
  have hno:¬zBl g.shape g.w g.h g.holes:=fun h=>by have:=hy.2 h;cases this
  dsimp only[mkV,mkF,cond,List.nil_append];refine go ?_;intro b3;refine go ?_;exact q_fin 130 (hv:=rfl) (hp:=⟨(fun h=>by cases h),fun h=>absurd h.make hno⟩)
 |true=>
  have hmk:=hy.1 rfl;dsimp only[mkV,mkF,cond,zLA,mkG,List.cons_append,List.nil_append];refine go ?_;intro b3;refine go ?_;refine zA (zB2 (xs:=zAJ g.w g.h g.holes) (ys:=g.cells) (by
   have:=zCg (g.w*g.h).toNat g.holes;have:=zBk hmk.wi hmk.he;unfold zAJ;omega)) (next:=fun _ _=>?_)
  refine go ?_;refine zJK rfl (fun h1=>?_) (fun h1=>?_)
  ·refine go ?_;exact q_fin 130 (hv:=rfl) (hp:=⟨(fun h=>by cases h),fun h=>absurd h.cells.symm h1⟩)
  ·refine go ?_;exact q_fin 0 (hv:=rfl) (hp:=⟨fun _=>⟨hmk,h1.symm⟩,fun _=>rfl⟩)
abbrev zUe(x:Int×(Int×Int)):List Value:=[.int .i64 x.1,zFh x.2]
theorem zE7{b1:Nat}{g:Grd}{vh vc:Value}(hg:zAB g):zHT Tryz.prog zUe (.func 269) [] [ptr' b1] [fRaw b1 0 (zH2 g vh vc),fSl intE vc g.cells] (fun xs=>xs=spotsL g):=by
 intro S inv ok step s0 yfn y1 y2 F' h0 hok hy;have hgl:=hg.len;have hwi:=hg.make.wi;rw[List.cons_append,List.cons_append,List.nil_append];refine zE _ (isC 269) fun B w0=>?_;refine go ?_;refine zH (fun y:Nat×S=>g.cells.length - y.1) (fun y=>[(10,.int .i64 (y.1:Int))]) (fun y=>inv y.2) (fun _=>[]) (fun y=>y.1≤g.cells.length∧ok ((spotsL g).take y.1) y.2∧zAf step y.2 ((spotsL g).drop y.1)=zAf step s0 (spotsL g)) (0,s0) ⟨Nat.zero_le _,h0,rfl⟩ (body:=?_);rintro⟨k,s⟩ ⟨hk,hos,hrun⟩;dsimp only at hk hos hrun⊢;refine go ?_;refine if_d rfl (fun h1=>?_) (fun h1=>?_)
 ·refine go ?_;intro _ _ x hx;have hxb:=hg.cell x (List.mem_of_getElem? hx);have hsp:=zA5 hx;have hd:(spotsL g).drop k=((k:Int),zBU g x)::(spotsL g).drop (k+1):=by
   rw[List.drop_eq_getElem_cons (by rw[zf];omega)];congr 1;rw[List.getElem?_eq_getElem (by rw[zf];omega)]at hsp;exact Option.some.inj hsp
  have hX:(spotsL g).take k++((k:Int),zBU g x)::(spotsL g).drop (k+1)=spotsL g:=by rw[← hd,List.take_append_drop]
  refine go ?_;refine(d_p rfl rfl (zUB (a:=x) (b:=g.w) rfl rfl (by omega))).h ?_;refine go ?_;have hq:0≤x.tdiv g.w∧x.tdiv g.w≤x:=by
   rw[Int.tdiv_eq_ediv_of_nonneg hxb.1];exact⟨Int.ediv_nonneg hxb.1 (by omega),Int.ediv_le_self _ hxb.1⟩
  have hr:0≤x.tmod g.w∧x.tmod g.w≤x:=by
   rw[Int.tmod_eq_emod_of_nonneg hxb.1];refine⟨Int.emod_nonneg _ (by omega),?_⟩;have:=Int.emod_add_mul_ediv x g.w;have h3:0≤g.w*(x/g.w):=Int.mul_nonneg (by omega) (Int.ediv_nonneg hxb.1 (by omega));omega
  refine(d_p rfl rfl (zSG (a:=x) (b:=g.w) rfl rfl (by omega) (by omega) (by omega))).h ?_;refine go ?_;refine if_d rfl (fun h2=>?_) (fun h2=>?_)
  ·have hso:zBU g x=(x.tmod g.w - (x.tdiv g.w).tdiv 2,x.tdiv g.w):=by unfold zBU;rw[if_pos h2]
   have hq2:0≤(x.tdiv g.w).tdiv 2∧(x.tdiv g.w).tdiv 2≤x.tdiv g.w:=by
    rw[Int.tdiv_eq_ediv_of_nonneg hq.1];omega
   rw[hso]at hX hd;have hyy:=hy _ s _ _ hos hX;refine go ?_;refine(d_p rfl rfl (zSG (a:=x.tdiv g.w) (b:=2) rfl rfl (by omega) (by omega) (by omega))).h ?_;refine go ?_;refine zA hyy (next:=fun _ _=>?_);rw[hd,zAf]at hrun;refine go ?_;cases hst:step s ((k:Int),_)with
   |mk s' b=>
    have hst:=hst;rw[hst]at hrun;cases b with
    |true=>
     refine go ?_;refine zB (k+1,s') (by show g.cells.length - (k+1)<g.cells.length - k;omega) ⟨by show k+1≤_;omega,?_,hrun⟩;have:=hok _ s _ _ hos hX (by rw[hst]);rw[hst]at this;rw[show(spotsL g).take (k+1)=(spotsL g).take k++[_]from by rw[List.take_add_one,hsp];rfl];rw[hso];exact this
    |false=>
     refine go ?_;exact q_fin (spotsL g) (hv:=rfl) (hp:=rfl) (hk:=by rw[← hrun];exact SelL.all _)
  ·have hso:zBU g x=(x.tmod g.w,x.tdiv g.w):=by unfold zBU;rw[if_neg h2]
   rw[hso]at hX hd;have hyy:=hy _ s _ _ hos hX;refine go ?_;refine zA hyy (next:=fun _ _=>?_);rw[hd,zAf]at hrun;refine go ?_;cases hst:step s ((k:Int),_)with
   |mk s' b=>
    have hst:=hst;rw[hst]at hrun;cases b with
    |true=>
     refine go ?_;refine zB (k+1,s') (by show g.cells.length - (k+1)<g.cells.length - k;omega) ⟨by show k+1≤_;omega,?_,hrun⟩;have:=hok _ s _ _ hos hX (by rw[hst]);rw[hst]at this;rw[show(spotsL g).take (k+1)=(spotsL g).take k++[_]from by rw[List.take_add_one,hsp];rfl];rw[hso];exact this
    |false=>
     refine go ?_;exact q_fin (spotsL g) (hv:=rfl) (hp:=rfl) (hk:=by rw[← hrun];exact SelL.all _)
 have hkl:k=(spotsL g).length:=by rw[zf];omega
 rw[hkl,List.drop_length]at hrun;refine go ?_;exact q_fin (spotsL g) (hv:=rfl) (hp:=rfl) (hk:=by rw[← hrun];exact SelL.all _)
end Go.Proofs.YtpkieeggilkagaaGreat
namespace Go.Proofs.YtpkieeggilkagaaGreat
open Go.Ideal Kd
theorem zNF:Tryz.prog.globals.size=0:=by kernel_rfl
theorem zLj:zJH (zC3 Tryz.prog zDZ zBH):=zCd _ _ _ (fun f q h v h' hm=>by cases hm)
theorem zOX:(evB (zC3 Tryz.prog zDZ zBH) 1000).call ⟨.func 271,[.int .u64 0],[],none⟩ ⟨.leaf,0,0⟩ (gives (.int .i64 0) 0)=true:=by kernel_rfl
theorem zRJ:FnP Tryz.prog 271 [.int .u64 0] [] (.int .i64 0):=fun B w s=>by
 have h1:CALL Tryz.prog ⟨.func 271,[.int .u64 0],[],none⟩ ⟨.leaf,0,0⟩ (fun r pm h=>pm=none∧r=.ok (.int .i64 0)∧h.low=0):=.conseq _ (zCC zLj zOX) fun _ _ _ hg=>zGj hg;exact .memo ⟨.leaf,0,0⟩ (.int .i64 0) rfl rfl rfl (Nat.zero_le _) (by rw[zNF];exact Nat.zero_le _) (by intro i o ho;cases ho) _ h1 (fun r pm h' q=>q) ⟨rfl,w,(),rfl,s,rfl,trivial⟩
theorem zOI{a:Option Addr}{c:Nat}:FnP Tryz.prog 280 [.slice a 0 c,.int .i64 0,.int .i64 0] [] (.tuple ⟨[]⟩):=by
 refine zE _ (isC 280) fun B w0=>?_;refine go ?_;refine zAU ?_;refine go ?_;exact q_fin () (hv:=rfl) (hp:=trivial)
theorem zRb{a:Option Addr}{c:Nat}:FnP Tryz.prog 270 [.slice a 0 c,.int .i64 0,.int .i64 0,.int .i64 0] [] (.tuple ⟨[]⟩):=by
 refine zE _ (isC 270) fun B w0=>?_;refine go ?_;refine zAU ?_;refine go ?_;refine zA (zOI (a:=a) (c:=c)) (next:=fun _ _=>?_);refine go ?_;exact q_fin () (hv:=rfl) (hp:=trivial)
theorem zOl{a:Option Addr}{c:Nat}:FnP Tryz.prog 249 [.slice a 0 c] [] (.tuple ⟨[]⟩):=by
 refine zE zI8 f_sortI fun B w0=>?_;refine go ?_;refine(d_p rfl rfl (zFT (k:=.u64) (m:=0) (by kernel_rfl:Tryz.prog.underlying 3=some (.int .i64)) (by kernel_rfl) rfl (by rfl))).h ?_;refine zA zRJ (next:=fun _ _=>?_);refine go ?_;refine zA (zRb (a:=a) (c:=c)) (next:=fun _ _=>?_);refine go ?_;exact q_fin () (hv:=rfl) (hp:=trivial)
theorem zTN:∃fn body,Tryz.prog.funcs[249]? =some fn∧fn.body=some body∧fn.name≠ "runtime.NumGoroutine" :=by
 obtain⟨fn,h1,h2⟩:=zLj.fn 249 zI8 f_sortI;have h3:Tryz.prog.funcs[249]? =some fn:=h1;have h4:(fn.name== "runtime.NumGoroutine")=false:=by
  have e:(Tryz.prog.funcs[249]?).map (fun f=>f.name== "runtime.NumGoroutine")=some false:=by kernel_rfl
  rw[h3]at e;exact Option.some.inj e
 have h5:fn.body.isSome=true:=by
  have e:(Tryz.prog.funcs[249]?).map (fun f=>f.body.isSome)=some true:=by kernel_rfl
  rw[h3]at e;exact Option.some.inj e
 obtain⟨body,hb⟩:=Option.isSome_iff_exists.1 h5;exact⟨fn,body,h3,hb,by simpa using h4⟩
theorem zHG{a:Option Addr}{m:Nat}{zs:List Int}(hm:m=zs.length)(hl:zs.length<4611686018427387904):
 FnC Tryz.prog (.func 249) [.slice a m m] [] [ap intE (.slice a m m) zs] [] (fun _:Unit=>.tuple ⟨[]⟩) (fun _=>[ap intE (.slice a m m) (sortZ zs)]) (fun _=>[]) (fun _=>True):=by
 subst hm;obtain⟨fn,body,h1,h2,h3⟩:=zTN;by_cases hz:zs=[]
 ·subst hz;have e:sortZ []=[]:=by simp[sortZ]
  rw[e];intro B w s;obtain⟨S1,s1,back⟩:=s.lend (k1:=[]) (klr:=[ap intE (.slice a 0 0) []]) (F1:=[]) .nil .nil;refine .conseq _ (zOl (a:=a) (c:=0) S1 w s1) ?_;rintro r pm h' ⟨hp,w',y,e1,st,e2,_⟩;exact⟨hp,w',(),e1,back w' _ _ st,e2,trivial⟩
 ·exact zOi srt h1 h2 h3 (List.length_pos_iff.2 hz) hl
theorem zSu:zKl Tryz.prog 237 zFh:=zLm (e:=3) (by kernel_rfl) (by kernel_rfl) (by kernel_rfl) (fun a b=>by kernel_rfl)
theorem zHJ{g:Grd}{vh vc:Value}:FnC Tryz.prog (.func 248) [.agg ⟨zH2 g vh vc⟩] [] [] (zLA g vh vc) (fun b:Nat=>.func (.func 269) #[] #[ptr' b]) (fun _=>[]) (fun b=>[fRaw b 0 (zH2 g vh vc),fSl intE vc g.cells]) (fun _=>True):=by
 refine zE _ (isC 248) fun B w0=>?_;refine go ?_;intro b1;refine go ?_;refine zK (zN (b:=b1)) (h:=?_);exact q_fin b1 (hv:=rfl) (hp:=trivial)
def fIf(c:Prop)(f:zJ):zJ:=⟨fun w=>c→f.p w,fun a h e=>f.mono a (h e)⟩
theorem zGi{B:List Nat}{w0:Wd}{kl:List OA}{F:List zJ}{Q:IH→Prop}{c:Prop}{f:zJ}(hc:¬c)(h:R Q B w0 kl (fIf c f::F)):R Q B w0 kl F:=zX (fIf c f) (fun w _ e=>absurd e hc) h
theorem zFd{B:List Nat}{w0:Wd}{kl:List OA}{F:List zJ}{Q:IH→Prop}{c:Prop}{f:zJ}(hf:f∈F)(h:R Q B w0 kl (fIf c f::F)):R Q B w0 kl F:=zX (fIf c f) (fun w hw _=>hw f hf) h
structure LsY where
 v:Value
 e:Int
abbrev lsV(y:LsY):Value:=.tuple ⟨[y.v,.int .i64 y.e]⟩
theorem zDV{S α:Type}(f:S→α→S):∀(xs:List α) (s:S),zBu (fun s x=>(f s x,Out.normal)) s xs=(xs.foldl f s,.normal)
 |[],s=>rfl
 |x::xs,s=>by
  show zBu (fun s x=>(f s x,Out.normal)) (f s x) xs=_;rw[zDV f xs];rfl
section
variable {P:Program} {B:List Nat} {w0:Wd} {kl kl':List OA} {F:List zJ} {Q:IH→Prop}
theorem zMY{b:Nat}{cs cs':List Value}(e:cs=cs')(h:R Q B w0 (pt b (.cells cs')::kl') F)(hk:autoParam (Sel (pt b (.cells cs)) kl kl') zBN._auto_1):R Q B w0 kl F:=by
 subst e;exact fun w s=>h w (s.sel hk)
theorem zDf{α:Type}{E:Enc α}{v:Value}{xs:List α}(h:∀a,v=.slice a xs.length xs.length→R Q B w0 kl F)(hk:autoParam (Sel (ap E v xs) kl kl') zBN._auto_1):R Q B w0 kl F:=fun w s=>by
 obtain⟨S,⟨S1,S2,q,_⟩,_⟩:=(s.sel hk).own;obtain⟨a,e⟩:=zIo q;exact h a e w s
end
abbrev zTc(b n:Nat):Value:=.slice (some ⟨b,0,some 0⟩) n n
theorem zMH{g:Grd}{vh vc:Value}(hS:zP7 g):
 FnC Tryz.prog (.func 185) [.agg ⟨zH2 g vh vc⟩] [] [] (zLA g vh vc) lsV (fun _=>[]) (fun y=>[fIf (y.e=0) (fSl (slZ intE) y.v (nbsOf g))]) (fun y=>y.e=0↔zAB g):=by
 refine zFV _ (isC 185) fun B w0=>?_;refine go ?_;intro b1 b2;refine go ?_;refine zA (zLw (g:=g) hS) (next:=fun e he=>?_);refine go ?_;refine if_d rfl (fun h1=>?_) (fun h1=>?_)
 ·refine go ?_;refine zGi (c:=(130:Int)=0) (f:=fSl (slZ intE) (.slice none 0 0) (nbsOf g)) (by omega) ?_;exact zEZ ⟨.slice none 0 0,130⟩ (hv:=rfl) (hp:=⟨(fun h=>by cases h),fun h=>absurd (he.2 h) h1⟩)
 have hg:=he.1 (by omega);have hgl:=hg.len;have hsb:=zCD hg;have hsl:=zf g;refine go ?_;intro b4 b5;refine go ?_;refine zJF (klr:=[pt b4 (.cells zGH),pt b2 (.cells [.slice none 0 0]),pt b1 (.cells (zH2 g vh vc))]) [] (fun _:Unit=>[]) (fun _=>[pt b5 (.cells [.int .i64 (manyOf g:Int)])]) (fun _=>[]) (fun _=>True) (hx:=?_) (hy:=?_)
 ·refine if_d rfl (fun h2=>?_) (fun h2=>?_)
  ·refine go ?_;rw[show(4:Int)=(manyOf g:Int)by unfold manyOf;rw[if_pos h2];rfl];exact zBt () trivial
  ·refine go ?_;rw[show(6:Int)=(manyOf g:Int)by unfold manyOf;rw[if_neg h2];rfl];exact zBt () trivial
 intro _ _;refine go ?_;refine zCU zFh (fun bm=>?_);refine go ?_;intro b6;refine go ?_;refine zA (zHJ (g:=g) (vh:=vh) (vc:=vc)) (next:=fun bs _=>?_);refine go ?_;refine zJV (Z:=Nat) (fun(m:List ((Int×Int)×Value)) (x:Int×(Int×Int))=>(upd x.2 (.int .i64 x.1) m,.normal)) (fun m=>[mpA zFh bm m,pt b6 (.cells [.map (some bm)])]) (fun vs m=>m=atM vs) [] _ (fun x b8=>[pt b8 (.cells [.int .i64 x.2.1,.int .i64 x.2.2])]) rfl (fun vs s x rest hs _ _=>by rw[hs,zDq]) (zE7 (b1:=bs) (vh:=vh) (vc:=vc) hg) (by intro s x lo o B w0;refine go ?_;intro b8;refine go ?_;exact asgZ_end b8 rfl) ?_ ?_ (fun _ _=>trivial)
 ·intro vs s x rest b8 lo L B w0 hs hX;dsimp only[List.cons_append,List.nil_append];refine go ?_;refine zGu zSu x.2 (v:=.int .i64 x.1) ?_;refine go ?_;exact zBp () rfl trivial trivial
 intro r1 xs hxs;subst hxs;rw[zDV (fun(m:List ((Int×Int)×Value)) (x:Int×(Int×Int))=>upd x.2 (.int .i64 x.1) m)];dsimp only[List.cons_append,List.nil_append];rw[show(spotsL g).foldl (fun(m:List ((Int×Int)×Value)) (x:Int×(Int×Int))=>upd x.2 (.int .i64 x.1) m) []=atM (spotsL g)from rfl];refine zK (zD8 (b:=bm)) (h:=?_);refine zK (zN (b:=b6)) (h:=?_);refine go ?_;refine zNl g.cells.length ⟨by omega,by omega,by omega⟩ fun bl=>?_;rw[show zeros [.slice none 0 0] g.cells.length=List.replicate g.cells.length (.slice none 0 0)from zCK _ _];refine zQf (apN intE) (x0:=([]:List Int)) (fun w=>⟨.inl ⟨rfl,rfl,rfl⟩,fun _=>rfl⟩) (h:=?_);refine go ?_;refine zA (zHJ (g:=g) (vh:=vh) (vc:=vc)) (next:=fun bs2 _=>?_);refine go ?_;refine zK (zN (b:=b4)) (h:=?_);refine zK (zN (b:=b5)) (h:=?_);have hml:(stepsL.take (manyOf g)).length=manyOf g:=by rw[List.length_take];show min (manyOf g) 6=_;have:=zBJ g;omega
 refine zX (fSl zRH (.slice (some ⟨b4,0,some 0⟩) (manyOf g) 6) (stepsL.take (manyOf g))) (fun w h=>zKw (h (fRaw b4 0 zGH) (List.mem_cons_of_mem _ (List.mem_cons_self ..))) (zBJ g)) ?_;refine zJV (Z:=Nat) (fun(xss:List (List Int)) (x:Int×(Int×Int))=>(xss.set x.1.toNat (zBc g x),.normal)) (fun xss=>[zHN (apN intE) bl xss,pt b2 (.cells [zTc bl g.cells.length])]) (fun vs xss=>xss=vs.map (zBc g)++List.replicate (g.cells.length - vs.length) []) (List.replicate g.cells.length []) _ (fun x b10=>[pt b10 (.cells [.int .i64 x.2.1,.int .i64 x.2.2])]) (by simp) (fun vs s x rest hs hX _=>by
  have h1:=zDP hX;rw[hs,h1.1];have:=zJQ (A:=vs.map (zBc g)) (n:=g.cells.length) (by rw[List.length_map];exact h1.2.1) (zBc g x);rw[List.length_map]at this;rw[Int.toNat_natCast,this,List.map_append,List.length_append];rfl) (zE7 (b1:=bs2) (vh:=vh) (vc:=vc) hg) (by intro s x lo o B w0;refine go ?_;intro b8;refine go ?_;exact asgZ_end b8 rfl) ?_ ?_ (fun _ _=>trivial)
 ·intro vs xss x rest b10 lo L B w0 hs hX;dsimp only[List.cons_append,List.nil_append];obtain⟨hc,hvl,hxm⟩:=zDP hX;have hbx:=hsb x hxm;obtain⟨c,s1,s2⟩:=x;dsimp only at hc hbx;subst hc;have hxk:xss[vs.length]? =some []:=by
   rw[hs,List.getElem?_append_right (by simp),List.length_map,Nat.sub_self,List.getElem?_replicate,if_pos (by omega)]
  have hxl:xss.length=g.cells.length:=by rw[hs];simp;omega
  refine go ?_;refine(d_p rfl rfl (zNe (m:=manyOf g) rfl rfl (zBJ g))).h ?_;refine go ?_;refine zKC (A:=zHN (apN intE) bl xss) (A':=zHN (apN intE) bl (xss.set vs.length (zj (atM (spotsL g)) (s1,s2) ((stepsL.take (manyOf g)).take 0)))) (congrArg (zHN (apN intE) bl) (by
   apply List.ext_getElem?;intro i;rw[List.getElem?_set];by_cases hi:vs.length=i
   ·subst hi;rw[if_pos rfl,if_pos (by omega),hxk];rfl
   ·rw[if_neg hi])) ?_
  refine zH (fun j=>manyOf g - j) (fun j:Nat=>[(47,.int .i64 (j:Int))]) (fun j=>[zHN (apN intE) bl (xss.set vs.length (zj (atM (spotsL g)) (s1,s2) ((stepsL.take (manyOf g)).take j)))]) (fun _=>[]) (fun j=>j≤manyOf g) 0 (Nat.zero_le _) (body:=?_);intro j hj;refine go ?_;refine if_d rfl (fun h2=>?_) (fun h2=>?_)
  ·refine go ?_;obtain⟨dd,hd⟩:∃dd,(stepsL.take (manyOf g))[j]? =some dd:=⟨_,List.getElem?_eq_getElem (by omega)⟩
   have hdb:=zMP dd (List.mem_of_mem_take (List.mem_of_getElem? hd));have hdv:zAT (zAg zGH (j*2)) 2=some [.int .i64 dd.1,.int .i64 dd.2]:=zMs (j:=j) (d:=dd) (by rw[List.getElem?_take]at hd;split at hd;exact hd;cases hd);have hnr:=zIF (atM (spotsL g)) (s1,s2) ((stepsL.take (manyOf g)).take j) dd;rw[← zP hd]at hnr;have hnl:=zDG (atM (spotsL g)) (s1,s2) ((stepsL.take (manyOf g)).take j);have hjm:=zBJ g;rw[List.length_take]at hnl;obtain⟨d1,d2⟩:=dd;dsimp only at hdb hdv hnr;refine(d_loadNFj (o:=0) (j:=j*2) (cs:=zGH) rfl rfl rfl (List.mem_cons_of_mem _ (List.mem_cons_of_mem _ (List.mem_cons_self ..))) hdv).h ?_;refine go ?_;intro b12;refine go ?_;refine(d_p rfl rfl (p_add (a:=s1) (b:=d1) rfl rfl (by omega) (by omega))).h ?_;refine go ?_;refine(d_p rfl rfl (p_add (a:=s2) (b:=d2) rfl rfl (by omega) (by omega))).h ?_;refine go ?_;refine zQZ zSu (s1+d1,s2+d2) (fun v hv hm=>?_) (fun hm=>?_)
   ·obtain⟨c,rfl,hc⟩:=zMx _ _ hv;rw[hv]at hnr;refine go ?_;refine zP8 (apN intE) (b:=bl) (xss:=xss.set vs.length (zj (atM (spotsL g)) (s1,s2) ((stepsL.take (manyOf g)).take j))) (k:=vs.length) (xs:=zj (atM (spotsL g)) (s1,s2) ((stepsL.take (manyOf g)).take j)) (by rw[List.getElem?_set,if_pos rfl,if_pos (by omega)]) (h:=fun ws v hvl2 hv2=>?_);rw[List.length_set]at hvl2;refine zQM intE v (zj (atM (spotsL g)) (s1,s2) ((stepsL.take (manyOf g)).take j)) (fun hz=>?_);refine zDw (o:=0+vs.length*1) (cs:=ws) v (by rw[Nat.zero_add,Nat.mul_one];exact hv2) ?_;refine go ?_;intro b43;refine go ?_;refine zQb (xs:=zj (atM (spotsL g)) (s1,s2) ((stepsL.take (manyOf g)).take j)) intE c () (by omega) (next:=fun ad=>?_);rw[show zj (atM (spotsL g)) (s1,s2) ((stepsL.take (manyOf g)).take j)++[c]=zj (atM (spotsL g)) (s1,s2) ((stepsL.take (manyOf g)).take (j+1))from hnr.symm];refine go ?_;refine zC4 (o:=0+vs.length*1) (cs:=ws) (v:=.slice ad ((zj (atM (spotsL g)) (s1,s2) ((stepsL.take (manyOf g)).take j)).length+1) ((zj (atM (spotsL g)) (s1,s2) ((stepsL.take (manyOf g)).take j)).length+1)) (cs':=ws.set vs.length (.slice ad ((zj (atM (spotsL g)) (s1,s2) ((stepsL.take (manyOf g)).take j)).length+1) ((zj (atM (spotsL g)) (s1,s2) ((stepsL.take (manyOf g)).take j)).length+1))) (by rw[Nat.zero_add,Nat.mul_one]) (by omega) ?_;refine zP0 intE (.slice ad ((zj (atM (spotsL g)) (s1,s2) ((stepsL.take (manyOf g)).take j)).length+1) ((zj (atM (spotsL g)) (s1,s2) ((stepsL.take (manyOf g)).take j)).length+1)) (zj (atM (spotsL g)) (s1,s2) ((stepsL.take (manyOf g)).take (j+1))) (fun e=>by rw[hnr]at e;exact absurd e (by show¬(_++[c]=[]);simp)) ?_;refine zQD (apN intE) (b:=bl) (xss:=xss.set vs.length (zj (atM (spotsL g)) (s1,s2) ((stepsL.take (manyOf g)).take j))) (vs:=ws) (k:=vs.length) (xs:=zj (atM (spotsL g)) (s1,s2) ((stepsL.take (manyOf g)).take (j+1))) (by rw[List.length_set];exact hvl2) (by rw[List.length_set];omega) (h:=?_);rw[List.set_set];refine go ?_;exact zB (j+1) (by omega) (by omega)
   ·rw[zAI hm]at hnr;refine go ?_;refine zKC (A:=zHN (apN intE) bl (xss.set vs.length (zj (atM (spotsL g)) (s1,s2) ((stepsL.take (manyOf g)).take j)))) (A':=zHN (apN intE) bl (xss.set vs.length (zj (atM (spotsL g)) (s1,s2) ((stepsL.take (manyOf g)).take (j+1))))) (congrArg (zHN (apN intE) bl) ((by rw[hnr];exact congrArg (xss.set vs.length) (List.append_nil _).symm))) ?_;exact zB (j+1) (by omega) (by omega)
  have hjl:j=manyOf g:=by omega
  subst hjl;refine zKC (A:=zHN (apN intE) bl (xss.set vs.length (zj (atM (spotsL g)) (s1,s2) ((stepsL.take (manyOf g)).take (manyOf g))))) (A':=zHN (apN intE) bl (xss.set vs.length (zj (atM (spotsL g)) (s1,s2) (stepsL.take (manyOf g))))) (congrArg (zHN (apN intE) bl) ((congrArg (fun z=>xss.set vs.length (zj (atM (spotsL g)) (s1,s2) z)) (List.take_of_length_le (Nat.le_of_eq hml))))) ?_;refine go ?_;refine zP8 (apN intE) (b:=bl) (xss:=xss.set vs.length (zj (atM (spotsL g)) (s1,s2) (stepsL.take (manyOf g)))) (k:=vs.length) (xs:=zj (atM (spotsL g)) (s1,s2) (stepsL.take (manyOf g))) (by rw[List.getElem?_set,if_pos rfl,if_pos (by omega)]) (h:=fun ws v hvl2 hv2=>?_);rw[List.length_set]at hvl2;refine zQM intE v (zj (atM (spotsL g)) (s1,s2) (stepsL.take (manyOf g))) (fun hz=>?_);refine zDw (o:=0+vs.length*1) (cs:=ws) v (by rw[Nat.zero_add,Nat.mul_one];exact hv2) ?_;have hn6:=zDG (atM (spotsL g)) (s1,s2) (stepsL.take (manyOf g));rw[hml]at hn6;have hjm:=zBJ g;refine zDf (E:=intE) (v:=v) (xs:=zj (atM (spotsL g)) (s1,s2) (stepsL.take (manyOf g))) fun a hv=>?_;subst hv;refine zA (zHG (a:=a) (zs:=zj (atM (spotsL g)) (s1,s2) (stepsL.take (manyOf g))) rfl (by omega)) (next:=fun _ _=>?_);refine zMY (b:=bl) (cs:=ws) (cs':=ws.set vs.length (.slice a (zj (atM (spotsL g)) (s1,s2) (stepsL.take (manyOf g))).length (zj (atM (spotsL g)) (s1,s2) (stepsL.take (manyOf g))).length)) (zOO hv2).symm ?_;refine zP0 intE (.slice a (zj (atM (spotsL g)) (s1,s2) (stepsL.take (manyOf g))).length (zj (atM (spotsL g)) (s1,s2) (stepsL.take (manyOf g))).length) (sortZ (zj (atM (spotsL g)) (s1,s2) (stepsL.take (manyOf g)))) (fun e=>hz (List.length_eq_zero_iff.1 (by rw[← zBM,e];rfl))) ?_;refine zQD (apN intE) (b:=bl) (xss:=xss.set vs.length (zj (atM (spotsL g)) (s1,s2) (stepsL.take (manyOf g)))) (vs:=ws) (k:=vs.length) (xs:=sortZ (zj (atM (spotsL g)) (s1,s2) (stepsL.take (manyOf g)))) (by rw[List.length_set];exact hvl2) (by rw[List.length_set];omega) (h:=?_);refine zKC (A:=zHN (apN intE) bl ((xss.set vs.length (zj (atM (spotsL g)) (s1,s2) (stepsL.take (manyOf g)))).set vs.length (sortZ (zj (atM (spotsL g)) (s1,s2) (stepsL.take (manyOf g)))))) (A':=zHN (apN intE) bl (xss.set ((vs.length:Int)).toNat (zBc g ((vs.length:Int),s1,s2)))) (congrArg (zHN (apN intE) bl) ((by rw[List.set_set,Int.toNat_natCast];rfl))) ?_;refine go ?_;exact zBp () rfl trivial trivial
 intro r2 xs2 hxs2;subst hxs2;rw[zDV (fun(xss:List (List Int)) (x:Int×(Int×Int))=>xss.set x.1.toNat (zBc g x))];dsimp only[List.cons_append,List.nil_append];rw[show(spotsL g).foldl (fun(xss:List (List Int)) (x:Int×(Int×Int))=>xss.set x.1.toNat (zBc g x)) (List.replicate g.cells.length [])=nbsOf g from zPQ g];refine zK (zRI (A:=apN intE) (E:=slZ intE) (b:=bl) (xss:=nbsOf g) (c:=(nbsOf g).length) (fun v=>v) rfl (fun _ _=>rfl) (fun v xs=>zRf)) (h:=?_);rw[zAZ];refine go ?_;refine zFd (c:=(0:Int)=0) (f:=fSl (slZ intE) (.slice (some ⟨bl,0,some 0⟩) g.cells.length g.cells.length) (nbsOf g)) (by simp) ?_;exact zEZ ⟨.slice (some ⟨bl,0,some 0⟩) g.cells.length g.cells.length,0⟩ (hv:=rfl) (hp:=⟨fun _=>hg,fun _=>rfl⟩)
end Go.Proofs.YtpkieeggilkagaaGreat
