/-
  Puzzles: the constraints that rules make.
-/
import Derived.Test.YtpkieeggilkagaaGreatLibP
import Derived.Test.YtpkieeggilkagaaGreatPlainC
set_option linter.unusedSimpArgs false
set_option linter.unusedVariables false
set_option maxRecDepth 10000
set_option maxHeartbeats 4000000
namespace Go.Proofs.YtpkieeggilkagaaGreat
open Go.Ideal Kd Canon Gph
theorem zPD{r:Rul}{vals:List Int}{vc vv v1 v2:Value}(h:r.by_≠zAp→0<vals.length):FnP Tryz.prog 204 [.agg ⟨[vc,vv]⟩,.agg ⟨zCG r v1 v2⟩] [fSl intE vv vals] (.int .i64 (numR r vals)):=by
 refine zE _ (isC 204) fun B w0=>?_;refine go ?_;intro b2 b3;refine go ?_;refine zJK (p:=r.by_=zAp) (by show Value.bool _=_;rw[zAW]) (fun h1=>?_) (fun h1=>?_)
 ·have h0:=h h1;refine go ?_;intro _ _ y hy;refine go ?_;refine q_fin () (hv:=?_) (hp:=trivial);unfold numR;rw[if_neg h1,zSC hy];rfl
 ·refine go ?_;refine q_fin () (hv:=?_) (hp:=trivial);unfold numR;rw[if_pos h1];rfl
theorem zJY{r:Rul}{vals:List Int}{vc vv v1 v2:Value}{most:Int}(h:r.by_≠zAp→0<vals.length):FnP Tryz.prog 162 [.agg ⟨[vc,vv]⟩,.agg ⟨zCG r v1 v2⟩,.int .i64 most] [fSl intE vv vals] (.tuple ⟨[.int .i64 (zCv r vals most).1,.int .i64 (zCv r vals most).2]⟩):=by
 refine zE _ (isC 162) fun B w0=>?_;refine go ?_;intro b3 b4;refine go ?_;refine zA (zPD (r:=r) (vals:=vals) (vc:=vc) (vv:=vv) (v1:=v1) (v2:=v2) h) (next:=fun _ _=>?_);refine go ?_;refine if_d rfl (fun h1=>?_) (fun h1=>?_)
 ·refine go ?_;refine q_fin () (hv:=?_) (hp:=trivial);unfold zCv;rw[if_pos h1];rfl
 refine go ?_;refine if_d rfl (fun h2=>?_) (fun h2=>?_)
 ·refine go ?_;refine(d_p rfl rfl (zP1 rfl rfl)).h ?_;refine go ?_;refine q_fin () (hv:=?_) (hp:=trivial);unfold zCv;rw[if_neg h1,if_pos h2];rfl
 refine go ?_;refine q_fin () (hv:=?_) (hp:=trivial);unfold zCv;rw[if_neg h1,if_neg h2];rfl
abbrev zR4(k s o lo hi:Int)(vr:Value):Value:=.agg ⟨[.int .i64 k,.slice none 0 0,.int .i64 s,.int .i64 o,.int .i64 lo,.int .i64 hi,vr,.int .i64 0,.int .i64 0]⟩
theorem zKo{b:Nat}{k:Int}{r:Rul}{vc vv v1 v2:Value}:FnC Tryz.prog (.func 161) [.agg ⟨zCG r v1 v2⟩,.agg ⟨[vc,vv]⟩] [ptr' b] [] [fRaw b 0 [.int .i64 k]] (fun _:Unit=>zR4 k r.set r.other r.n 0 (.slice none 0 0)) (fun _=>[]) (fun _=>[]) (fun _=>True):=by
 refine zE _ (isC 161) fun B w0=>?_;refine go ?_;intro b3 b4 b5;refine go ?_;exact q_fin () (hv:=rfl) (hp:=trivial)
theorem zBC{k:Int}:FnC Tryz.prog (.func 116) [.int .i64 k] [] [] [] (fun b:Nat=>.func (.func 161) #[] #[ptr' b]) (fun _=>[]) (fun b=>[fRaw b 0 [.int .i64 k]]) (fun _=>True):=by
 refine zE _ (isC 116) fun B w0=>?_;refine go ?_;intro b1;refine go ?_;refine zK (zN (b:=b1)) (h:=?_);exact q_fin b1 (hv:=rfl) (hp:=trivial)
theorem zM6{r:Rul}{cells vals:List Int}{vc vv v1 v2:Value}(h:r.by_≠zAp→0<vals.length):FnP Tryz.prog 117 [.agg ⟨zCG r v1 v2⟩,.agg ⟨[vc,vv]⟩] [fSl intE vc cells,fSl intE vv vals] (zR4 2 r.set 0 (zCv r vals cells.length).1 (zCv r vals cells.length).2 (.slice none 0 0)):=by
 refine zE _ (isC 117) fun B w0=>?_;refine go ?_;intro b2 b3 b4;refine go ?_;refine zA (zJY (r:=r) (vals:=vals) (vc:=vc) (vv:=vv) (v1:=v1) (v2:=v2) (most:=(cells.length:Int)) h) (next:=fun _ _=>?_);refine go ?_;exact q_fin () (hv:=rfl) (hp:=trivial)
theorem zRP{r:Rul}{vals:List Int}{vc vv v1 v2:Value}(h:r.by_≠zAp→0<vals.length):FnP Tryz.prog 118 [.agg ⟨zCG r v1 v2⟩,.agg ⟨[vc,vv]⟩] [fSl intE vv vals] (zR4 3 0 0 (zCv r vals 65536).1 (zCv r vals 65536).2 (.slice none 0 0)):=by
 refine zE _ (isC 118) fun B w0=>?_;refine go ?_;intro b2 b3 b4;refine go ?_;refine zA (zJY (r:=r) (vals:=vals) (vc:=vc) (vv:=vv) (v1:=v1) (v2:=v2) (most:=65536) h) (next:=fun _ _=>?_);refine go ?_;exact q_fin () (hv:=rfl) (hp:=trivial)
theorem zPn{r:Rul}{vals:List Int}{vc vv v1 v2:Value}:FnP Tryz.prog 119 [.agg ⟨zCG r v1 v2⟩,.agg ⟨[vc,vv]⟩] [fSl intE vv vals] (zR4 5 r.set 0 0 0 vv):=by
 refine zE _ (isC 119) fun B w0=>?_;refine zR (E:=intE) (v:=vv) (xs:=vals) (by simp) fun av cv ev1=>?_;subst ev1;refine go ?_;intro b2 b3 b4;refine go ?_;exact q_fin () (hv:=rfl) (hp:=trivial)
theorem zLM{r:Rul}{vals:List Int}{vc vv v1 v2:Value}(h0:0<vals.length)(hv:∀x∈vals,0≤x∧x<16):FnP Tryz.prog 120 [.agg ⟨zCG r v1 v2⟩,.agg ⟨[vc,vv]⟩] [fSl intE vv vals] (zR4 2 ((1<<<(vals.getD 0 0).toNat:Nat):Int) 0 1 1 (.slice none 0 0)):=by
 refine zE _ (isC 120) fun B w0=>?_;refine go ?_;intro b2 b3 b4;refine go ?_;intro _ _ y hy;have hyv:=hv y (List.mem_of_getElem? hy);obtain⟨n,rfl⟩:=Int.eq_ofNat_of_zero_le hyv.1;have hlt:(1:Nat)<<<n<9223372036854775808:=by
  rw[Nat.one_shiftLeft];exact Nat.lt_of_lt_of_le (Nat.pow_lt_pow_right (by omega) (show n<16 by omega)) (by decide)
 refine q_p (zOK (a:=1) (b:=n) rfl rfl (by omega) hlt) ?_;refine go ?_;refine q_fin () (hv:=?_) (hp:=trivial);rw[zSC hy,Int.toNat_natCast];rfl
structure MkB where
 b1:Nat
 b4:Nat
 b6:Nat
 b7:Nat
 b8:Nat
 b9:Nat
 b10:Nat
abbrev plF(b:Nat):Value:=.func (.func 161) #[] #[ptr' b]
abbrev zUf(y:MkB):List Value:=[.int .i64 0,.int .i64 0,.nilFunc,.int .i64 (-1),.int .i64 2,plF y.b1,.int .i64 (-1),.int .i64 0,.func (.func 117) #[] #[],.int .i64 (-1),.int .i64 0,.func (.func 118) #[] #[],
 .int .i64 (-1),.int .i64 2,plF y.b4,.int .i64 (-1),.int .i64 0,.func (.func 119) #[] #[],.int .i64 6,.int .i64 0,plF y.b6,.int .i64 6,.int .i64 0,plF y.b7,.int .i64 6,.int .i64 0,plF y.b8,.int .i64 7,.int .i64 0,plF y.b9,.int .i64 7,.int .i64 0,plF y.b10,.int .i64 0,.int .i64 0,.func (.func 120) #[] #[]]
abbrev zUo(y:MkB):List zJ:=[fRaw y.b1 0 [.int .i64 1],fRaw y.b4 0 [.int .i64 4],fRaw y.b6 0 [.int .i64 1],fRaw y.b7 0 [.int .i64 6],fRaw y.b8 0 [.int .i64 7],fRaw y.b9 0 [.int .i64 8],fRaw y.b10 0 [.int .i64 9]]
theorem zLe:FnC Tryz.prog (.func 54) [] [] [] [] (fun y:MkB=>.agg ⟨zUf y⟩) (fun _=>[]) zUo (fun _=>True):=by
 refine zE _ (isC 54) fun B w0=>?_;refine go ?_;intro b0;refine zA (zBC (k:=1)) (next:=fun b1 _=>?_);refine go ?_;refine zA (zBC (k:=4)) (next:=fun b4 _=>?_);refine go ?_;refine zA (zBC (k:=1)) (next:=fun b6 _=>?_);refine go ?_;refine zA (zBC (k:=6)) (next:=fun b7 _=>?_);refine go ?_;refine zA (zBC (k:=7)) (next:=fun b8 _=>?_);refine go ?_;refine zA (zBC (k:=8)) (next:=fun b9 _=>?_);refine go ?_;refine zA (zBC (k:=9)) (next:=fun b10 _=>?_);dsimp only[List.cons_append,List.nil_append];refine go ?_;exact q_fin ⟨b1,b4,b6,b7,b8,b9,b10⟩ (hv:=rfl) (hp:=trivial)
end Go.Proofs.YtpkieeggilkagaaGreat
namespace Go.Proofs.YtpkieeggilkagaaGreat
open Go.Ideal Kd Canon Gph
structure zRK(p:List zm)(t:zm)(y:Nat×Bool):Prop where
 le:y.1≤p.length
 lo:∀(j:Nat) g,j<y.1→p[j]? =some g→plc g t<0
 hi:∀(j:Nat) g,y.1≤j→p[j]? =some g→¬plc g t<0
 is:y.2=true↔∃g,p[y.1]? =some g∧plc g t=0
def zTf(p:List zm):Prop:=∀(i j:Nat) a b,i<j→p[i]? =some a→p[j]? =some b→plc a b<0
theorem zSl{v vt:Value}{p:List zm}{t:zm}(hl:p.length<4611686018427387904)(hs:zTf p):
 FnC Tryz.prog (.func 122) [v,zTb t vt,.func (.func 115) #[] #[]] [] [] [fSl gvnE v p] (fun y:Nat×Bool=>.tuple ⟨[.int .i64 (y.1:Int),.bool y.2]⟩) (fun _=>[]) (fun _=>[]) (zRK p t):=by
 refine zE _ (isC 122) fun B w0=>?_;refine go ?_;intro b4;refine go ?_;refine zH (fun y:Nat×Nat=>y.2 - y.1) (fun y=>[(9,.int .i64 (y.1:Int)),(10,.int .i64 (y.2:Int))]) (fun _=>[]) (fun _=>[]) (fun y=>y.1≤y.2∧y.2≤p.length∧(∀(j:Nat) g,j<y.1→p[j]? =some g→plc g t<0)∧(∀(j:Nat) g,y.2≤j→p[j]? =some g→¬plc g t<0)) (0,p.length) ⟨Nat.zero_le _,Nat.le_refl _,fun j x hj=>by omega,fun j x hj hx=>by have:=(List.getElem?_eq_some_iff.1 hx).1;omega⟩ (body:=?_);rintro⟨a,b⟩ ⟨hab,hb,hlo,hhi⟩;dsimp only at hab hb hlo hhi⊢;refine go ?_;refine if_d rfl (fun h1=>?_) (fun h1=>?_)
 ·have hav:a≤(a+b)>>>1∧(a+b)>>>1<b:=by
   rw[Nat.shiftRight_eq_div_pow];omega
  generalize hm:(a+b)>>>1=m at hav;refine go ?_;rw[show(a:Int)+(b:Int)=((a+b:Nat):Int)by omega];refine(d_p rfl rfl (zFT (k:=.u64) (m:=((a+b:Nat):Int)) (by kernel_rfl:Tryz.prog.underlying 3=some (.int .i64)) (by kernel_rfl) rfl (zTY (by omega)))).h ?_;refine(d_p rfl rfl (zP4 (a:=a+b) (b:=1) rfl rfl (by omega))).h ?_;rw[hm];refine(d_p rfl rfl (zFT (k:=.i64) (m:=(m:Int)) (by kernel_rfl:Tryz.prog.underlying 178=some (.int .u64)) (by kernel_rfl) rfl (wrapN (by omega)))).h ?_;refine go ?_;refine zV gvnE (xs:=p) (next:=fun _ _ x (vx:Value) hx=>?_);refine go ?_;refine zA (zGg (a:=x) (b:=t) (va:=vx) (vb:=vt)) (next:=fun _ _=>?_);refine go ?_;refine if_d rfl (fun h2=>?_) (fun h2=>?_)
  ·refine go ?_;refine zB (m+1,b) (by show b - (m+1)<b - a;omega) ⟨by show m+1≤b;omega,hb,fun j u hj hu=>?_,hhi⟩;by_cases e:j=m
   ·subst e;rw[hx]at hu;cases hu;exact h2
   ·exact zEz (hs j m u x (by have:j<m+1:=hj;omega) hu hx) h2
  ·refine go ?_;refine zB (a,m) (by show m - a<b - a;omega) ⟨by show a≤m;omega,by show m≤_;omega,hlo,fun j u hj hu=>?_⟩;by_cases e:j=m
   ·subst e;rw[hx]at hu;cases hu;exact h2
   ·exact fun h3=>h2 (zEz (hs m j x u (by have:m≤j:=hj;omega) hx hu) h3)
 have hba:b=a:=by omega
 subst hba;refine go ?_;first|with_reducible refine g_d (fun h2=>?_) (fun h2=>?_)|with_reducible refine g_n (fun h2=>?_) (fun h2=>?_)|with_reducible refine g_b (fun h2=>?_) (fun h2=>?_)
 ·have hn:p[b]? =none:=List.getElem?_eq_none (by omega);refine go ?_;exact q_fin (b,false) (hv:=rfl) (hp:=⟨by show b≤_;omega,hlo,hhi,by show false=true↔∃g,p[b]? =some g∧_;rw[hn];simp⟩)
 refine go ?_;refine zV gvnE (xs:=p) (next:=fun _ _ x (vx:Value) hx=>?_);refine go ?_;refine zA (zGg (a:=x) (b:=t) (va:=vx) (vb:=vt)) (next:=fun _ _=>?_);refine go ?_;refine q_fin (b,decide (plc x t=0)) (hv:=rfl) (hp:=⟨by show b≤_;omega,hlo,hhi,?_⟩);show decide (plc x t=0)=true↔∃g,p[b]? =some g∧plc g t=0;rw[hx,decide_eq_true_iff];exact⟨fun h=>⟨x,rfl,h⟩,fun⟨g,h1,h2⟩=>by cases h1;exact h2⟩
end Go.Proofs.YtpkieeggilkagaaGreat
namespace Go.Proofs.YtpkieeggilkagaaGreat
open Go.Ideal Kd Canon Gph
theorem zRK.find{p:List zm}{c:Int}{n:Nat}{y:Nat×Bool}(hs:zTf p)(h:zRK p ⟨c,(n:Int),[]⟩ y):(y.2=true→∃g,p[y.1]? =some g∧zHF p c (n:Int)=some g.values)∧(y.2=false→zHF p c (n:Int)=none):=by
 have hz:∀g:zm,plc g ⟨c,(n:Int),[]⟩=0↔g.clue=c∧g.at_=(n:Int):=fun g=>by
  unfold plc;simp only[zB6];have h1:=zNm.zero g.clue c;have h2:=zNm.zero g.at_ (n:Int);by_cases e:zFq g.clue c=0
  ·rw[if_neg (by simpa using e)];by_cases e2:zFq g.at_ (n:Int)=0
   ·rw[if_neg (by simpa using e2)];exact⟨fun _=>⟨h1.1 e,h2.1 e2⟩,fun _=>rfl⟩
   ·rw[if_pos e2];exact⟨fun h=>absurd h e2,fun h=>absurd (h2.2 h.2) e2⟩
  ·rw[if_pos e];exact⟨fun h=>absurd h e,fun h=>absurd (h1.2 h.1) e⟩
 have huniq:∀(i j:Nat) a b,p[i]? =some a→p[j]? =some b→plc a ⟨c,(n:Int),[]⟩=0→plc b ⟨c,(n:Int),[]⟩=0→i=j:=by
  intro i j a b ha hb h1 h2;have e1:=(hz a).1 h1;have e2:=(hz b).1 h2;rcases Nat.lt_trichotomy i j with hl|hl|hl
  ·have:=zCz.1 (hs i j a b hl ha hb);omega
  ·exact hl
  ·have:=zCz.1 (hs j i b a hl hb ha);omega
 constructor
 ·intro hy;obtain⟨g,hg,h0⟩:=h.is.1 hy;refine⟨g,hg,?_⟩;unfold zHF;cases hf:p.find? (fun g=>decide (g.clue=c∧g.at_=(n:Int)))with
  |none=>
   have:=List.find?_eq_none.1 hf g (List.mem_of_getElem? hg);exact absurd (decide_eq_true ((hz g).1 h0)) this
  |some g2=>
   have h2':=List.find?_some hf;have h2:g2.clue=c∧g2.at_=(n:Int):=of_decide_eq_true h2';obtain⟨j,hj⟩:=List.getElem?_of_mem (List.mem_of_find?_eq_some hf);have:=huniq _ _ _ _ hg hj h0 ((hz g2).2 h2);subst this;rw[hg]at hj;cases hj;rfl
 ·intro hy;unfold zHF;rw[show p.find? (fun g=>decide (g.clue=c∧g.at_=(n:Int)))=none from List.find?_eq_none.2 fun g hg hd=>by
   have hd:=of_decide_eq_true hd;have h0:=(hz g).2 hd;obtain⟨j,hj⟩:=List.getElem?_of_mem hg;by_cases hlt:j<y.1
   ·have:=h.lo j g hlt hj;omega
   ·by_cases e:j=y.1
    ·subst e;have:=h.is.2 ⟨g,hj,h0⟩;rw[hy]at this;cases this
    ·have hyl:y.1<p.length:=by have:=(List.getElem?_eq_some_iff.1 hj).1;omega
     have hq:p[y.1]? =some p[y.1]:=List.getElem?_eq_getElem hyl;have h1:=hs y.1 j _ g (by omega) hq hj;have h2:=h.hi y.1 _ (Nat.le_refl _) hq;apply h2;have e1:=zCz.1 h1;rw[zCz];show p[y.1].clue<c∨p[y.1].clue=c∧p[y.1].at_<(n:Int);omega]
  rfl
theorem zHj{k:Knd}{r:Rul}{fi:Nat}{vh vs vr vc vu gh gc vn vl vp v1 v2:Value}:
 FnC Tryz.prog (.func 55) [.agg ⟨zFl k vh vs vr vc vu gh gc vn vl⟩,.agg ⟨[vp]⟩,.agg ⟨zCG r v1 v2⟩,.int .i64 (fi:Int)] [] [] [] (fun y:Nat×Nat×Nat×Nat=>.func (.func 121) #[] #[ptr' y.1,ptr' y.2.1,ptr' y.2.2.1,ptr' y.2.2.2]) (fun _=>[])
  (fun y=>[fRaw y.1 0 (zFl k vh vs vr vc vu gh gc vn vl),fRaw y.2.1 0 [.int .i64 (fi:Int)],fRaw y.2.2.1 0 (zCG r v1 v2),fRaw y.2.2.2 0 [vp]]) (fun _=>True):=by
 refine zE _ (isC 55) fun B w0=>?_;refine go ?_;intro b4 b5 b6 b7;refine go ?_;refine zK (zN (b:=b4)) (h:=?_);refine zK (zN (b:=b5)) (h:=?_);refine zK (zN (b:=b6)) (h:=?_);refine zK (zN (b:=b7)) (h:=?_);exact q_fin (b4,b7,b6,b5) (hv:=rfl) (hp:=trivial)
theorem zTT{B:List Nat}{w0:Wd}{kl:List OA}{F:List zJ}{Q:IH→Prop}(f:zJ)(hf:∀w,f.p w)(h:R Q B w0 kl (f::F)):R Q B w0 kl F:=fun w s=>
 h w ⟨s.agree,s.le,s.zold,s.own,fun g hg=>by
  rcases List.mem_cons.1 hg with rfl|hg
  ·exact hf w
  ·exact s.facts g hg⟩
def zIP(p:List zm)(r:Rul)(ls:List (List Int))(j:Nat):List (Nat×List Int×List Int):=((ls.drop j).zipIdx (0+(ls.take j).length)).filterMap (zFu p r)
theorem zGE{p:List zm}{r:Rul}{ls:List (List Int)}(j:Nat):linesR p r ls=linesR p r (ls.take j)++zIP p r ls j:=by
 unfold linesR zIP;rw[← List.filterMap_append,← List.zipIdx_append,List.take_append_drop]
theorem zGJ{bk bf br bp:Nat}{k:Knd}{p:List zm}{r:Rul}{fi:Nat}{ls:List (List Int)}{vh vs vr vc vu gh gc vn vl vp v1 v2:Value}(hS:zHH k)(hl:p.length<4611686018427387904)(hs:zTf p)(hls:k.lists[fi]? =some ls):
 zOy Tryz.prog laV laF (.func 121) [] [ptr' bk,ptr' bf,ptr' br,ptr' bp] [fRaw bk 0 (zFl k vh vs vr vc vu gh gc vn vl),fRaw bf 0 [.int .i64 (fi:Int)],fRaw br 0 (zCG r v1 v2),fRaw bp 0 [vp],fSl (slE (slE intE)) vl k.lists,fSl gvnE vp p] (fun xs=>xs.map zIH=linesR p r ls):=by
 intro S inv ok step s0 yfn y1 y2 F' h0 hok hy;rw[List.cons_append,List.cons_append,List.cons_append,List.cons_append,List.cons_append,List.cons_append,List.nil_append];refine zE _ (isC 121) fun B w0=>?_;have hll:=(hS.lists.2 ls (List.mem_of_getElem? hls)).1;have hfi:=(List.getElem?_eq_some_iff.1 hls).1;refine go ?_;refine zV (slE (slE intE)) (xs:=k.lists) (next:=fun _ _ ls2 (vls:Value) hls2=>?_);rw[hls]at hls2;obtain rfl:ls=ls2:=Option.some.inj hls2;refine go ?_;refine zH (fun y:Nat×List LA×S=>ls.length - y.1) (fun y=>[(17,.int .i64 (y.1:Int))]) (fun y=>inv y.2.2) (fun _=>[]) (fun y=>y.1≤ls.length∧ok y.2.1 y.2.2∧y.2.1.map zIH=linesR p r (ls.take y.1)∧∀rest,zAf step s0 (y.2.1++rest)=zAf step y.2.2 rest) (0,[],s0) ⟨Nat.zero_le _,h0,rfl,fun _=>rfl⟩ (body:=?_);rintro⟨j,vis,s⟩ ⟨hj,hos,hvis,hrun⟩;dsimp only at hj hos hvis hrun⊢;refine go ?_;refine if_d rfl (fun h1=>?_) (fun h1=>?_)
 rotate_left
 ·have hje:j=ls.length:=by omega
  subst hje;rw[List.take_length]at hvis;have hr2:=hrun [];rw[List.append_nil]at hr2;refine go ?_;exact q_fin vis (hv:=rfl) (hp:=hvis) (hk:=by rw[hr2];exact SelL.all _)
 refine go ?_;refine zV (slE intE) (xs:=ls) (next:=fun _ _ ps (vps:Value) hps=>?_);have hsuc:=zIe (p:=p) (r:=r) hps;refine zR (E:=intE) (v:=vps) (xs:=ps) (by simp) fun ap cp ep=>?_;subst ep;refine go ?_;intro b8;refine go ?_;refine if_d rfl (fun h2=>?_) (fun h2=>?_)
 ·have hlr:zFu p r (ps,j)=(zHF p r.clue (j:Int)).map fun v=>(j,ps,v):=by unfold zFu;rw[if_neg (by omega)]
  refine go ?_;refine zA (zSl (p:=p) (t:=⟨r.clue,(j:Int),[]⟩) (vt:=.slice none 0 0) hl hs) (next:=fun y hy2=>?_);have hfd:=hy2.find hs;obtain⟨n,fd⟩:=y;dsimp only at hfd⊢;rw[List.nil_append];cases fd with
  |false=>
   have hnn:=hfd.2 rfl;rw[hlr,hnn]at hsuc;refine go ?_;exact zB (j+1,vis,s) (by show ls.length - (j+1)<ls.length - j;omega) ⟨by show j+1≤_;omega,hos,by show vis.map zIH=_;rw[hvis,hsuc];exact(List.append_nil _).symm,hrun⟩
  |true=>
   obtain⟨g,hg,hfg⟩:=hfd.1 rfl;have hnp:=(List.getElem?_eq_some_iff.1 hg).1;rw[hlr,hfg]at hsuc;refine go ?_;refine zST gvnE 3 rfl hg fun b o f cc yc ec=>?_;subst ec;rw[show gvnE.fs g yc=[fSl intE yc g.values]from rfl,List.cons_append,List.nil_append,show gvnE.pat g yc=[.int .i64 g.clue,.int .i64 g.at_,yc]from rfl];refine go ?_;refine(d_loadFj (b:=b) (o:=o+n*3) (j:=2) (cs:=[.int .i64 g.clue,.int .i64 g.at_,yc]) (v:=yc) rfl rfl rfl (List.mem_cons_self ..) rfl).h ?_;refine zR (E:=intE) (v:=yc) (xs:=g.values) (by simp) fun aq cq eq=>?_;subst eq;generalize hxd:((j,(ps,Value.slice ap ps.length cp),(g.values,Value.slice aq g.values.length cq)):LA)=x;have hnx:linesR p r (ls.take (j+1))=linesR p r (ls.take j)++[zIH x]:=by rw[hsuc,← hxd];rfl
   have hX:(vis++x::zQJ (zIP p r ls (j+1))).map zIH=linesR p r ls:=by
    rw[List.map_append,List.map_cons,zJq,hvis];conv=>rhs;rw[zGE (j+1),hnx,List.append_assoc]
    rfl
   have hyy:=hy _ s _ _ hos hX;rw[show laV x=[.int .i64 (j:Int),.agg ⟨[.slice ap ps.length cp,.slice aq g.values.length cq]⟩]by rw[← hxd];rfl,show laF x=[fSl intE (.slice ap ps.length cp) ps,fSl intE (.slice aq g.values.length cq) g.values]by rw[← hxd];rfl]at hyy;rw[List.cons_append,List.cons_append,List.nil_append]at hyy;refine go ?_;refine zA hyy (next:=fun _ _=>?_);cases hst:(step s x).2 with
   |true=>
    have hs1:step s x=((step s x).1,true):=Prod.ext rfl hst;refine go ?_;refine zB (j+1,vis++[x],(step s x).1) (by show ls.length - (j+1)<ls.length - j;omega) ⟨by show j+1≤_;omega,hok _ s _ _ hos hX hst,?_,fun rest=>?_⟩
    ·show(vis++[x]).map zIH=_;rw[List.map_append,List.map_singleton,hvis];exact hnx.symm
    ·show zAf step s0 (vis++[x]++rest)=_;rw[List.append_assoc,hrun];show zAf step s (x::rest)=_;rw[zAf,hs1]
   |false=>
    have hs1:step s x=((step s x).1,false):=Prod.ext rfl hst;have hr:=hrun (x::zQJ (zIP p r ls (j+1)));rw[zAf,hs1]at hr;dsimp only at hr;refine go ?_;exact q_fin (vis++x::zQJ (zIP p r ls (j+1))) (hv:=rfl) (hp:=hX) (hk:=by rw[hr];first|exact SelL.all _|exact SelL.self _ _)
 ·have hlr:zFu p r (ps,j)=some (j,ps,[]):=by unfold zFu;rw[if_pos (by omega)]
  rw[hlr]at hsuc;refine zTT (fSl intE (.slice none 0 0) ([]:List Int)) (fun w=>.inl ⟨rfl,none,0,rfl,trivial⟩) ?_;generalize hxd:((j,(ps,Value.slice ap ps.length cp),(([]:List Int),Value.slice none 0 0)):LA)=x;have hnx:linesR p r (ls.take (j+1))=linesR p r (ls.take j)++[zIH x]:=by rw[hsuc,← hxd];rfl
  have hX:(vis++x::zQJ (zIP p r ls (j+1))).map zIH=linesR p r ls:=by
   rw[List.map_append,List.map_cons,zJq,hvis];conv=>rhs;rw[zGE (j+1),hnx,List.append_assoc]
   rfl
  have hyy:=hy _ s _ _ hos hX;rw[show laV x=[.int .i64 (j:Int),.agg ⟨[.slice ap ps.length cp,.slice none 0 0]⟩]by rw[← hxd];rfl,show laF x=[fSl intE (.slice ap ps.length cp) ps,fSl intE (.slice none 0 0) []]by rw[← hxd];rfl]at hyy;rw[List.cons_append,List.cons_append,List.nil_append]at hyy;refine go ?_;refine zA hyy (next:=fun _ _=>?_);cases hst:(step s x).2 with
  |true=>
   have hs1:step s x=((step s x).1,true):=Prod.ext rfl hst;refine go ?_;refine zB (j+1,vis++[x],(step s x).1) (by show ls.length - (j+1)<ls.length - j;omega) ⟨by show j+1≤_;omega,hok _ s _ _ hos hX hst,?_,fun rest=>?_⟩
   ·show(vis++[x]).map zIH=_;rw[List.map_append,List.map_singleton,hvis];exact hnx.symm
   ·show zAf step s0 (vis++[x]++rest)=_;rw[List.append_assoc,hrun];show zAf step s (x::rest)=_;rw[zAf,hs1]
  |false=>
   have hs1:step s x=((step s x).1,false):=Prod.ext rfl hst;have hr:=hrun (x::zQJ (zIP p r ls (j+1)));rw[zAf,hs1]at hr;dsimp only at hr;refine go ?_;exact q_fin (vis++x::zQJ (zIP p r ls (j+1))) (hv:=rfl) (hp:=hX) (hk:=by rw[hr];first|exact SelL.all _|exact SelL.self _ _)
end Go.Proofs.YtpkieeggilkagaaGreat
