/-
  Kinds: the steps in which one is built.
-/
import Derived.Test.YtpkieeggilkagaaGreatLibL
import Derived.Test.YtpkieeggilkagaaGreatLibC
import Derived.Test.YtpkieeggilkagaaGreatPlainC
set_option linter.unusedSimpArgs false
set_option linter.unusedVariables false
set_option maxRecDepth 10000
set_option maxHeartbeats 4000000
namespace Go.Proofs.YtpkieeggilkagaaGreat
open Go.Ideal Kd
noncomputable def zMc:zt:=⟨51,[(.tmp 2)],(.seq (.ops [2] [⟨⟨(some 2),none,(.asg (.const (.int .i64 0)))⟩,[]⟩]) (.seq (.seq (.ops [4,5,6,7,8,9,10,11,12,13,14,15,16,17,18,19,20,21,22,23,24,25,26,27,28,29,3,30,31,32,33,34,2] [⟨⟨(some 4),none,(.mv (.tmp 0))⟩,[]⟩,⟨⟨(some 5),none,(.mv (.tmp 0))⟩,[]⟩,⟨⟨(some 6),none,(.nilck (.tmp 5))⟩,[]⟩,⟨⟨(some 7),none,(.fieldA 0 (.tmp 6))⟩,[]⟩,⟨⟨(some 8),none,(.fieldA 0 (.tmp 7))⟩,[]⟩,⟨⟨(some 9),none,(.fieldA 2 (.tmp 8))⟩,[]⟩,⟨⟨(some 10),none,(.load1 (.tmp 9))⟩,[]⟩,⟨⟨(some 11),none,(.mv (.tmp 0))⟩,[]⟩,⟨⟨(some 12),none,(.nilck (.tmp 11))⟩,[]⟩,⟨⟨(some 13),none,(.fieldA 0 (.tmp 12))⟩,[]⟩,⟨⟨(some 14),none,(.fieldA 0 (.tmp 13))⟩,[]⟩,⟨⟨(some 15),none,(.fieldA 3 (.tmp 14))⟩,[]⟩,⟨⟨(some 16),none,(.load1 (.tmp 15))⟩,[]⟩,⟨⟨(some 17),none,(.mv (.tmp 0))⟩,[]⟩,⟨⟨(some 18),none,(.nilck (.tmp 17))⟩,[]⟩,⟨⟨(some 19),none,(.fieldA 0 (.tmp 18))⟩,[]⟩,⟨⟨(some 20),none,(.fieldA 0 (.tmp 19))⟩,[]⟩,⟨⟨(some 21),none,(.fieldA 4 (.tmp 20))⟩,[]⟩,⟨⟨(some 22),none,(.load1 (.tmp 21))⟩,[]⟩,⟨⟨(some 23),none,(.mv (.tmp 0))⟩,[]⟩,⟨⟨(some 24),none,(.nilck (.tmp 23))⟩,[]⟩,⟨⟨(some 25),none,(.fieldA 0 (.tmp 24))⟩,[]⟩,⟨⟨(some 26),none,(.fieldA 0 (.tmp 25))⟩,[]⟩,⟨⟨(some 27),none,(.fieldA 5 (.tmp 26))⟩,[]⟩,⟨⟨(some 28),none,(.load1 (.tmp 27))⟩,[]⟩,⟨⟨(some 29),none,(.call (.func 184) [(.tmp 10),(.tmp 16),(.tmp 22),(.tmp 28)])⟩,[]⟩,⟨⟨(some 3),none,(.mv (.tmp 29))⟩,[]⟩,⟨⟨(some 30),none,(.extract (.tmp 3) 0)⟩,[]⟩,⟨⟨(some 31),none,(.extract (.tmp 3) 1)⟩,[]⟩,⟨⟨(some 32),none,(.nilck (.tmp 4))⟩,[]⟩,⟨⟨(some 33),none,(.fieldA 0 (.tmp 32))⟩,[]⟩,⟨⟨(some 34),none,(.fieldA 10 (.tmp 33))⟩,[]⟩,⟨⟨none,none,(.store 5 (.tmp 34) (.tmp 30))⟩,[]⟩,⟨⟨(some 2),none,(.asg (.tmp 31))⟩,[]⟩]) (.seq (.ops [35,36] [⟨⟨(some 35),none,(.mv (.tmp 2))⟩,[]⟩,⟨⟨(some 36),none,(.bin .eql 40 (.tmp 35) (.const (.int .i64 0)))⟩,[]⟩]) (.cond (.tmp 36) (.ops [38,39,40,41,42,43,44,37,45,46,47,48,49,2] [⟨⟨(some 38),none,(.mv (.tmp 0))⟩,[]⟩,⟨⟨(some 39),none,(.mv (.tmp 0))⟩,[]⟩,⟨⟨(some 40),none,(.nilck (.tmp 39))⟩,[]⟩,⟨⟨(some 41),none,(.fieldA 0 (.tmp 40))⟩,[]⟩,⟨⟨(some 42),none,(.fieldA 10 (.tmp 41))⟩,[]⟩,⟨⟨(some 43),none,(.loadN 5 (.tmp 42))⟩,[]⟩,⟨⟨(some 44),none,(.call (.func 185) [(.tmp 43)])⟩,[]⟩,⟨⟨(some 37),none,(.mv (.tmp 44))⟩,[]⟩,⟨⟨(some 45),none,(.extract (.tmp 37) 0)⟩,[]⟩,⟨⟨(some 46),none,(.extract (.tmp 37) 1)⟩,[]⟩,⟨⟨(some 47),none,(.nilck (.tmp 38))⟩,[]⟩,⟨⟨(some 48),none,(.fieldA 0 (.tmp 47))⟩,[]⟩,⟨⟨(some 49),none,(.fieldA 15 (.tmp 48))⟩,[]⟩,⟨⟨none,none,(.store 1 (.tmp 49) (.tmp 45))⟩,[]⟩,⟨⟨(some 2),none,(.asg (.tmp 46))⟩,[]⟩]) .skip))) (.seq (.ops [50,2] [⟨⟨(some 50),none,(.mv (.tmp 2))⟩,[]⟩,⟨⟨(some 2),none,(.asg (.tmp 50))⟩,[]⟩]) .ret)))⟩
theorem f_kdraw:enF Tryz.prog 142=some zMc:=by kernel_rfl
abbrev bL(d:Dcl)(vh vs vr vc vu g1 g2 g3 g4 g5 g6 g7:Value):List Value:=[.string d.name,.int .i64 d.version,.int .i64 d.shape,.int .i64 d.w,.int .i64 d.h,vh,vs,vr,vc,vu,g1,g2,g3,g4,g5,g6,g7]
abbrev zL(g1 g2 g3 g4 g5 g6 g7:Value):List Value:=[.string ⟨⟨[]⟩⟩,.int .i64 0,.int .i64 0,.int .i64 0,.int .i64 0,.slice none 0 0,.slice none 0 0,.slice none 0 0,.slice none 0 0,.slice none 0 0,g1,g2,g3,g4,g5,g6,g7]
theorem zRd{b:Nat}{d:Dcl}{vh vs vr vc vu g1 g2 g3 g4 g5 g6 g7:Value}(hS:zJL d):FnC Tryz.prog (.func 140) [ptr' b] [] [pt b (.cells (bL d vh vs vr vc vu g1 g2 g3 g4 g5 g6 g7))] (zLE d vh vs vr vc vu) (fun y:RsY=>.int .i64 y.e)
 (fun y=>[pt b (.cells (cond y.ok (bL (Kd.rslv d) vh vs vr y.vc y.vu g1 g2 g3 g4 g5 g6 g7) (zL g1 g2 g3 g4 g5 g6 g7)))]) (rsF d) (RsP d):=by
 refine zE _ (isC 140) fun B w0=>?_;refine go ?_;refine zA (zLl (d:=d) hS) (next:=fun y hy=>?_);obtain⟨ok,e,v1,v2⟩:=y;cases ok with
 |false=>
  dsimp only[rsV,rsF,cond,List.nil_append]at hy⊢;refine go ?_;exact q_fin ⟨false,e,v1,v2⟩ (hv:=rfl) (hp:=hy)
 |true=>
  dsimp only[rsV,rsF,cond,List.cons_append,List.nil_append]at hy⊢;refine go ?_;exact q_fin ⟨true,e,v1,v2⟩ (hv:=rfl) (hp:=hy) (hF:=by show Sub [fSl zAS v1 (Kd.rslv d).clues,fSl zn v2 (Kd.rslv d).rules] _;exact .cons (by simp) (.cons (by simp) .nil))
theorem zRO{b:Nat}{d:Dcl}{vh vs vr vc vu g1 g2 g3 g4 g5 g6 g7:Value}(hT:zQE d):FnC Tryz.prog (.func 141) [ptr' b] [] [pt b (.cells (bL d vh vs vr vc vu g1 g2 g3 g4 g5 g6 g7))] (zLE d vh vs vr vc vu) (fun e:Int=>.int .i64 e)
 (fun _=>[pt b (.cells (bL d vh vs vr vc vu g1 g2 g3 g4 g5 g6 g7))]) (fun _=>[]) (fun e=>e=0↔zOW d):=by
 refine zE _ (isC 141) fun B w0=>?_;refine go ?_;refine zA (zRG (d:=d) (vh:=vh) (vs:=vs) (vr:=vr) (vc:=vc) (vu:=vu) hT) (next:=fun e he=>?_);refine go ?_;exact q_fin e (hv:=rfl) (hp:=he)
structure DrY where
 gh:Value
 gc:Value
 vn:Value
theorem zOw{b:Nat}{d:Dcl}{vh vs vr vc vu g1 g2 g3 g4 g5 g6 g7:Value}(hT:zQE d)(hm:zBl d.shape d.w d.h d.holes):
 FnC Tryz.prog (.func 142) [ptr' b] [] [pt b (.cells (bL d vh vs vr vc vu g1 g2 g3 g4 g5 g6 g7))] (zLE d vh vs vr vc vu) (fun _:DrY=>.int .i64 0)
 (fun y=>[pt b (.cells (bL d vh vs vr vc vu (.int .i64 (zI d).shape) (.int .i64 (zI d).w) (.int .i64 (zI d).h) y.gh y.gc y.vn g7))])
 (fun y=>[fSl intE y.gh (zI d).holes,fSl intE y.gc (zI d).cells,fSl (slE intE) y.vn (nbsOf (zI d))]) (fun _=>True):=by
 have hG:=zJD hm;have hgo:zAB (zI d):=⟨hm,rfl⟩
 refine zE zMc f_kdraw fun B w0=>?_;refine go ?_;refine zA (zHB (s:=d.shape) (w:=d.w) (h:=d.h) (holes:=d.holes) (vh:=vh) hT.w hT.h hT.holes) (next:=fun y hy=>?_);obtain⟨ok,v1,v2⟩:=y;cases ok with
 |false=>exact absurd (hy.2 hm) (by simp)
 |true=>
 dsimp only[cond,mkV,mkF];rw[show mkG d.shape d.w d.h d.holes=zI d from rfl];dsimp only[zLA,zH2,List.cons_append,List.nil_append];refine go ?_;refine zA (zMH (g:=zI d) (vh:=v1) (vc:=v2) hG) (next:=fun y hy2=>?_);obtain⟨vn,e⟩:=y;have he:e=0:=hy2.2 hgo;subst he;refine zX (fSl (slZ intE) vn (nbsOf (zI d))) (fun w hw=>hw (fIf ((0:Int)=0) (fSl (slZ intE) vn (nbsOf (zI d)))) (by simp) rfl) ?_;refine zX (fSl (slE intE) vn (nbsOf (zI d))) (fun w hw=>zHV (hw (fSl (slZ intE) vn (nbsOf (zI d))) (by simp))) ?_;dsimp only[lsV];refine zR (E:=slE intE) (v:=vn) (xs:=nbsOf (zI d)) (by simp) fun an cn en=>?_;subst en;refine go ?_;exact q_fin ⟨v1,v2,.slice an (nbsOf (zI d)).length cn⟩ (hv:=rfl) (hp:=trivial)
def zAb(g:Grd)(k:Nat):List (List (List Int)):=(List.range k).map fun f:Nat=>famOf g (f:Int)
theorem zIn(g:Grd)(k:Nat):zAb g (k+1)=zAb g k++[famOf g (k:Int)]:=by
 unfold zAb;rw[List.range_succ,List.map_append,List.map_singleton]
theorem zGK(g:Grd)(k:Nat):(zAb g k).length=k:=by unfold zAb;simp
theorem zO7{b:Nat}{d:Dcl}{vh vs vr vc vu gh gc vn:Value}(hT:zQE d)(hm:zBl d.shape d.w d.h d.holes)(hr:∀r∈d.regions,zNt (zI d) r):
 FnC Tryz.prog (.func 143) [ptr' b] [] [pt b (.cells (bL d vh vs vr vc vu (.int .i64 (zI d).shape) (.int .i64 (zI d).w) (.int .i64 (zI d).h) gh gc vn (.slice none 0 0)))]
 [fSl zEk vr d.regions,fSl intE gh (zI d).holes,fSl intE gc (zI d).cells] (fun _:Value=>.int .i64 0)
 (fun vl=>[pt b (.cells (bL d vh vs vr vc vu (.int .i64 (zI d).shape) (.int .i64 (zI d).w) (.int .i64 (zI d).h) gh gc vn vl))])
 (fun vl=>[fSl (slE (slE intE)) vl (listsOf d)]) (fun _=>True):=by
 have hG:=zJD hm;have hgo:zAB (zI d):=⟨hm,rfl⟩
 have hrl:=hT.s.regs;refine zE _ (isC 143) fun B w0=>?_;refine zR (E:=zEk) (v:=vr) (xs:=d.regions) (by simp) fun ar cr er=>?_;subst er;refine go ?_;refine zAd (slE (slE intE)) ?_;refine zH (fun y:Nat×Value=>8 - y.1) (fun y=>[(10,.int .i64 (y.1:Int))]) (fun y=>[pt b (.cells (bL d vh vs (.slice ar d.regions.length cr) vc vu (.int .i64 (zI d).shape) (.int .i64 (zI d).w) (.int .i64 (zI d).h) gh gc vn y.2)),ap (slE (slE intE)) y.2 (zAb (zI d) y.1)]) (fun _=>[]) (fun y=>y.1≤8) (0,.slice none 0 0) (Nat.zero_le _) (hk:=by repeat (first|exact SelL.nil|(apply SelL.cons;(focus (repeat (first|exact Sel.here|apply Sel.there)))))) (body:=?_);rintro⟨k,vl⟩ hk;dsimp only at hk⊢;have hkl:=zGK (zI d) k;refine go ?_;refine if_d rfl (fun h1=>?_) (fun h1=>?_)
 ·refine go ?_;refine zA (zSm (g:=zI d) (vh:=gh) (vc:=gc) (k:=(k:Int)) hG) (next:=fun y hy=>?_);obtain⟨v4,e⟩:=y;have he:e=0:=hy.2 ⟨hgo,by omega,by omega⟩;subst he;dsimp only[lsF,List.cons_append,List.nil_append];refine zX (fSl (slE intE) v4 (famOf (zI d) (k:Int))) (fun w hw=>hw (fIf ((0:Int)=0) (fSl (slE intE) v4 (famOf (zI d) (k:Int)))) (by simp) rfl) ?_;refine zR (E:=slE intE) (v:=v4) (xs:=famOf (zI d) (k:Int)) (by simp) fun a4 c4 e4=>?_;subst e4;refine go ?_;intro b33;refine go ?_;refine zAv (xs:=zAb (zI d) k) (slE (slE intE)) (famOf (zI d) (k:Int)) (.slice a4 (famOf (zI d) (k:Int)).length c4) (by omega) (next:=fun ad=>?_);rw[← zIn];refine go ?_;exact zB (k+1,.slice ad ((zAb (zI d) k).length+1) ((zAb (zI d) k).length+1)) (by show 8 - (k+1)<8 - k;omega) (by show k+1≤_;omega)
 have hk8:k=8:=by omega
 subst hk8;refine go ?_;refine zH (fun y:Nat×Value=>d.regions.length - y.1) (fun y=>[(46,.int .i64 (y.1:Int))]) (fun y=>[pt b (.cells (bL d vh vs (.slice ar d.regions.length cr) vc vu (.int .i64 (zI d).shape) (.int .i64 (zI d).w) (.int .i64 (zI d).h) gh gc vn y.2)),ap (slE (slE intE)) y.2 (zAb (zI d) 8++(d.regions.take y.1).map fun r=>regsOf (zI d) r.lists)]) (fun _=>[]) (fun y=>y.1≤d.regions.length) (0,vl) (Nat.zero_le _) (hk:=by rw[show zAb (zI d) 8++(d.regions.take 0).map (fun r=>regsOf (zI d) r.lists)=zAb (zI d) 8 from List.append_nil _];repeat (first|exact SelL.nil|(apply SelL.cons;(focus (repeat (first|exact Sel.here|apply Sel.there)))))) (body:=?_);rintro⟨k,v2⟩ hk;dsimp only at hk⊢;have hkl:(zAb (zI d) 8++(d.regions.take k).map fun r=>regsOf (zI d) r.lists).length=8+k:=by rw[List.length_append,zGK,List.length_map,List.length_take];omega
 refine go ?_;refine if_d rfl (fun h1=>?_) (fun h1=>?_)
 ·refine go ?_;refine zV zEk (xs:=d.regions) (next:=fun _ _ r (vr2:Value) hrk=>?_);have hrm:=List.mem_of_getElem? hrk;obtain⟨hl1,hl2⟩:=hT.s.regl r hrm;obtain⟨⟨_,hro⟩,_⟩:=hr r hrm;refine go ?_;intro b7;refine go ?_;refine zA (zLT (g:=zI d) (vh:=gh) (vc:=gc) (vr:=vr2) (rs:=r.lists) hG hl1 hl2) (next:=fun y hy=>?_);obtain⟨v8,e⟩:=y;have he:e=0:=hy.2 ⟨hgo,hro⟩;subst he;dsimp only[rgF,List.cons_append,List.nil_append];refine zX (fSl (slE intE) v8 (regsOf (zI d) r.lists)) (fun w hw=>hw (fIf ((0:Int)=0) (fSl (slE intE) v8 (regsOf (zI d) r.lists))) (by simp) rfl) ?_;refine zR (E:=slE intE) (v:=v8) (xs:=regsOf (zI d) r.lists) (by simp) fun a8 c8 e8=>?_;subst e8;refine go ?_;intro b71;refine go ?_;have htk:zAb (zI d) 8++(d.regions.take (k+1)).map (fun r=>regsOf (zI d) r.lists)=(zAb (zI d) 8++(d.regions.take k).map fun r=>regsOf (zI d) r.lists)++[regsOf (zI d) r.lists]:=by
   rw[zP hrk,List.map_append,List.map_singleton,List.append_assoc]
  refine zAv (xs:=zAb (zI d) 8++(d.regions.take k).map fun r=>regsOf (zI d) r.lists) (slE (slE intE)) (regsOf (zI d) r.lists) (.slice a8 (regsOf (zI d) r.lists).length c8) (by omega) (next:=fun ad=>?_);rw[← htk];refine go ?_;exact zB (k+1,.slice ad ((zAb (zI d) 8++(d.regions.take k).map fun r=>regsOf (zI d) r.lists).length+1) ((zAb (zI d) 8++(d.regions.take k).map fun r=>regsOf (zI d) r.lists).length+1)) (by show d.regions.length - (k+1)<d.regions.length - k;omega) (by show k+1≤_;omega)
 have hke:k=d.regions.length:=by omega
 subst hke;rw[List.take_length];rw[show zAb (zI d) 8++d.regions.map (fun r=>regsOf (zI d) r.lists)=listsOf d from rfl];refine zK (z5 (E:=slE (slE intE)) (v:=v2) (xs:=listsOf d)) (h:=?_);refine go ?_;exact q_fin v2 (hv:=rfl) (hp:=trivial)
end Go.Proofs.YtpkieeggilkagaaGreat
namespace Go.Proofs.YtpkieeggilkagaaGreat
open Go.Ideal Kd
abbrev zUJ:List Value:=zL (.int .i64 0) (.int .i64 0) (.int .i64 0) (.slice none 0 0) (.slice none 0 0) (.slice none 0 0) (.slice none 0 0)
abbrev zFl(k:Knd)(vh vs vr vc vu gh gc vn vl:Value):List Value:=bL k.decl vh vs vr vc vu (.int .i64 k.grid.shape) (.int .i64 k.grid.w) (.int .i64 k.grid.h) gh gc vn vl
abbrev zEs(k:Knd)(vh vs vr vc vu gh gc vn vl:Value)(F:List zJ):List zJ:=fSl intE vh k.decl.holes::fSl zET vs k.decl.symbols::fSl zEk vr k.decl.regions::fSl zAS vc k.decl.clues::fSl zn vu k.decl.rules::fSl intE gh k.grid.holes::fSl intE gc k.grid.cells::fSl (slE intE) vn k.nbs::fSl (slE (slE intE)) vl k.lists::F
structure zG0(d:Dcl):Prop where
 rs:zF2 d
 typ:zOW (Kd.rslv d)
structure zO(k:Knd):Prop where
 b:zG0 k.decl
 e:k=zIX (Kd.rslv k.decl)
structure zUX where
 ok:Bool
 e:Int
 vc:Value
 vu:Value
 gh:Value
 gc:Value
 vn:Value
 vl:Value
abbrev blV(d:Dcl)(vh vs vr:Value)(y:zUX):Value:=.tuple ⟨[.agg ⟨cond y.ok (zFl (zIX (Kd.rslv d)) vh vs vr y.vc y.vu y.gh y.gc y.vn y.vl) zUJ⟩,.int .i64 y.e]⟩
abbrev blF(d:Dcl)(vh vs vr:Value)(y:zUX):List zJ:=cond y.ok [fSl zAS y.vc (Kd.rslv d).clues,fSl zn y.vu (Kd.rslv d).rules,fSl intE y.gh (zI (Kd.rslv d)).holes,fSl intE y.gc (zI (Kd.rslv d)).cells,fSl (slE intE) y.vn (nbsOf (zI (Kd.rslv d))),fSl (slE (slE intE)) y.vl (listsOf (Kd.rslv d))] []
def BlP(d:Dcl)(y:zUX):Prop:=(y.ok=true→y.e=0∧zG0 d)∧(y.ok=false→y.e≠0∧¬zG0 d)
theorem zMb{d:Dcl}{vh vs vr vc vu:Value}(hT:zQE d):FnC Tryz.prog (.func 97) [.agg ⟨zGB d vh vs vr vc vu⟩] [] [] (zLE d vh vs vr vc vu) (blV d vh vs vr) (fun _=>[]) (blF d vh vs vr) (BlP d):=by
 have hT2:zQE (Kd.rslv d):=⟨hT.s.rslv,hT.w,hT.h,hT.holes⟩
 have hend:∀{e:Int} {vc vu gh gc vn vl:Value},e≠0→¬zG0 d→BlP d ⟨false,e,vc,vu,gh,gc,vn,vl⟩:=fun he hb=>⟨(fun h=>by cases h),fun _=>⟨he,hb⟩⟩
 refine zE _ (isC 97) fun B w0=>?_;refine go ?_;intro b1 b2 b4 b15;refine zAU ?_;refine go ?_;refine zA (zRd (b:=b4) (d:=d) (vh:=vh) (vs:=vs) (vr:=vr) (vc:=vc) (vu:=vu) hT.s) (next:=fun y hy=>?_);obtain⟨ok,e,v1,v2⟩:=y;cases ok with
 |false=>
  obtain⟨he,hno⟩:=hy.2 rfl;dsimp only[cond,rsF,List.nil_append]at he⊢;refine go ?_;refine if_d rfl (fun h1=>?_) (fun h1=>?_)
  ·refine go ?_;exact q_fin ⟨false,e,v1,v2,v1,v1,v1,v1⟩ (hv:=rfl) (hp:=hend he fun h=>hno h.rs)
  ·exact absurd (Decidable.not_not.1 h1) he
 |true=>
 obtain⟨he,hres⟩:=hy.1 rfl;have he:e=0:=he;subst he;clear hy;dsimp only[cond,rsF,List.cons_append,List.nil_append];refine zX (fSl intE vh (Kd.rslv d).holes) (fun w hw=>hw (fSl intE vh d.holes) (by simp)) ?_;refine zX (fSl zET vs (Kd.rslv d).symbols) (fun w hw=>hw (fSl zET vs d.symbols) (by simp)) ?_;refine zX (fSl zEk vr (Kd.rslv d).regions) (fun w hw=>hw (fSl zEk vr d.regions) (by simp)) ?_;refine go ?_;refine zAU ?_;refine go ?_;refine zA (zRO (b:=b4) (d:=Kd.rslv d) (vh:=vh) (vs:=vs) (vr:=vr) (vc:=v1) (vu:=v2) hT2) (next:=fun e he=>?_);refine go ?_;refine if_d rfl (fun hne=>?_) (fun hz=>?_)
 ·refine go ?_;exact q_fin ⟨false,e,v1,v2,v1,v1,v1,v1⟩ (hv:=rfl) (hp:=hend hne fun h=>hne (he.2 h.typ))
 have hty:=he.1 (Decidable.not_not.1 hz);clear he hz;refine go ?_;refine zAU ?_;refine go ?_;refine zA (zOw (b:=b4) (d:=Kd.rslv d) (vh:=vh) (vs:=vs) (vr:=vr) (vc:=v1) (vu:=v2) hT2 hty.mke) (next:=fun y _=>?_);obtain⟨gh,gc,vn⟩:=y;dsimp only[List.cons_append,List.nil_append];refine go ?_;refine zAU ?_;refine go ?_;refine zA (zO7 (b:=b4) (d:=Kd.rslv d) (vh:=vh) (vs:=vs) (vr:=vr) (vc:=v1) (vu:=v2) (gh:=gh) (gc:=gc) (vn:=vn) hT2 hty.mke hty.rgn) (next:=fun vl _=>?_);dsimp only[List.cons_append,List.nil_append];refine go ?_;refine zAU ?_;refine go ?_;refine q_fin ⟨true,0,v1,v2,gh,gc,vn,vl⟩ (hv:=rfl) (hp:=⟨fun _=>⟨rfl,hres,hty⟩,(fun h=>by cases h)⟩) (hF:=?_);show Sub [fSl zAS v1 (Kd.rslv d).clues,fSl zn v2 (Kd.rslv d).rules,fSl intE gh (zI (Kd.rslv d)).holes,fSl intE gc (zI (Kd.rslv d)).cells,fSl (slE intE) vn (nbsOf (zI (Kd.rslv d))),fSl (slE (slE intE)) vl (listsOf (Kd.rslv d))] _;exact .cons (by simp) (.cons (by simp) (.cons (by simp) (.cons (by simp) (.cons (by simp) (.cons (by simp) .nil)))))
structure zHH(k:Knd):Prop where
 d:zQE k.decl
 g:zP7 k.grid
 nbs:k.nbs.length<9223372036854775808∧∀l∈k.nbs,l.length<9223372036854775808
 lists:k.lists.length<9223372036854775808∧∀l∈k.lists,l.length<9223372036854775808∧∀m∈l,m.length<9223372036854775808
theorem zO3{x y:Knd}{h1 s1 r1 c1 u1 gh1 gc1 n1 l1 h2 s2 r2 c2 u2 gh2 gc2 n2 l2:Value}(hS:zHH x):FnP Tryz.prog 98 [.agg ⟨zFl x h1 s1 r1 c1 u1 gh1 gc1 n1 l1⟩,.agg ⟨zFl y h2 s2 r2 c2 u2 gh2 gc2 n2 l2⟩]
 (zEs x h1 s1 r1 c1 u1 gh1 gc1 n1 l1 (zEs y h2 s2 r2 c2 u2 gh2 gc2 n2 l2 [])) (.bool (decide (x=y))):=by
 have e1:=hS.d.s;have e2:=hS.g.holes;have e3:=hS.g.cells;obtain⟨e4,e5⟩:=hS.nbs;obtain⟨e6,e7⟩:=hS.lists;clear hS;obtain⟨xd,⟨xs,xw,xh,xho,xce⟩,xn,xl⟩:=x;obtain⟨yd,⟨ys,yw,yh,yho,yce⟩,yn,yl⟩:=y;dsimp only at e1 e2 e3 e4 e5 e6 e7;dsimp only[zFl,zEs];refine zE _ (isC 98) fun B w0=>?_;refine go ?_;intro b2 b3;refine go ?_;first|with_reducible refine g_d (fun k1=>?_) (fun k1=>?_)|with_reducible refine g_n (fun k1=>?_) (fun k1=>?_)|with_reducible refine g_b (fun k1=>?_) (fun k1=>?_)
 ·refine go ?_;refine q_fin () (hv:=?_) (hp:=trivial);rw[decide_eq_false (fun e=>k1 (by cases e;rfl))];rfl
 refine go ?_;first|with_reducible refine g_d (fun k2=>?_) (fun k2=>?_)|with_reducible refine g_n (fun k2=>?_) (fun k2=>?_)|with_reducible refine g_b (fun k2=>?_) (fun k2=>?_)
 ·refine go ?_;refine q_fin () (hv:=?_) (hp:=trivial);rw[decide_eq_false (fun e=>k2 (by cases e;rfl))];rfl
 refine go ?_;first|with_reducible refine g_d (fun k3=>?_) (fun k3=>?_)|with_reducible refine g_n (fun k3=>?_) (fun k3=>?_)|with_reducible refine g_b (fun k3=>?_) (fun k3=>?_)
 ·refine go ?_;refine q_fin () (hv:=?_) (hp:=trivial);rw[decide_eq_false (fun e=>k3 (by cases e;rfl))];rfl
 refine go ?_;refine zA (zB2 (xs:=xho) (ys:=yho) (by omega)) (next:=fun _ _=>?_);refine go ?_;first|with_reducible refine g_d (fun k4=>?_) (fun k4=>?_)|with_reducible refine g_n (fun k4=>?_) (fun k4=>?_)|with_reducible refine g_b (fun k4=>?_) (fun k4=>?_)
 ·refine go ?_;refine q_fin () (hv:=?_) (hp:=trivial);rw[decide_eq_false (fun e=>k4 (by cases e;rfl))];rfl
 refine go ?_;refine zA (zB2 (xs:=xce) (ys:=yce) (by omega)) (next:=fun _ _=>?_);refine go ?_;first|with_reducible refine g_d (fun k5=>?_) (fun k5=>?_)|with_reducible refine g_n (fun k5=>?_) (fun k5=>?_)|with_reducible refine g_b (fun k5=>?_) (fun k5=>?_)
 ·refine go ?_;refine q_fin () (hv:=?_) (hp:=trivial);rw[decide_eq_false (fun e=>k5 (by cases e;rfl))];rfl
 refine go ?_;have hsy:FnP Tryz.prog 144 [.agg ⟨zGB xd h1 s1 r1 c1 u1⟩,.agg ⟨zGB yd h2 s2 r2 c2 u2⟩] [fSl intE h1 xd.holes,fSl zET s1 xd.symbols,fSl zEk r1 xd.regions,fSl zAS c1 xd.clues,fSl zn u1 xd.rules,fSl intE h2 yd.holes,fSl zET s2 yd.symbols,fSl zEk r2 yd.regions,fSl zAS c2 yd.clues,fSl zn u2 yd.rules] (.bool (decide (xd=yd))):=zF5 e1;refine zA hsy (next:=fun _ _=>?_);refine go ?_;first|with_reducible refine g_d (fun k6=>?_) (fun k6=>?_)|with_reducible refine g_n (fun k6=>?_) (fun k6=>?_)|with_reducible refine g_b (fun k6=>?_) (fun k6=>?_)
 ·refine go ?_;refine q_fin () (hv:=?_) (hp:=trivial);rw[decide_eq_false (fun e=>k6 (by cases e;rfl))];rfl
 refine go ?_;refine zA (zHc (xs:=xn) (ys:=yn) e4 e5) (next:=fun _ _=>?_);refine go ?_;first|with_reducible refine g_d (fun k7=>?_) (fun k7=>?_)|with_reducible refine g_n (fun k7=>?_) (fun k7=>?_)|with_reducible refine g_b (fun k7=>?_) (fun k7=>?_)
 ·refine go ?_;refine q_fin () (hv:=?_) (hp:=trivial);rw[decide_eq_false (fun e=>k7 (by cases e;rfl))];rfl
 refine go ?_;refine zA (zPH (xs:=xl) (ys:=yl) e6 e7) (next:=fun _ _=>?_);refine go ?_;refine q_fin () (hv:=?_) (hp:=trivial);subst k1 k2 k3 k4 k5 k6 k7;rw[show decide (Knd.mk xd ⟨xs,xw,xh,xho,xce⟩ xn xl=Knd.mk xd ⟨xs,xw,xh,xho,xce⟩ xn yl)=decide (xl=yl)from decide_eq_decide.2 ⟨fun h=>by cases h;rfl,fun h=>by rw[h]⟩];rfl
theorem zHy{k:Knd}{vh vs vr vc vu gh gc vn vl:Value}(hS:zHH k):FnC Tryz.prog (.func 39) [.agg ⟨zFl k vh vs vr vc vu gh gc vn vl⟩] [] [] (zEs k vh vs vr vc vu gh gc vn vl []) (fun b:Bool=>.int .i64 (cond b 0 180)) (fun _=>[]) (fun _=>[]) (fun b=>b=true↔zO k):=by
 refine zE _ (isC 39) fun B w0=>?_;refine go ?_;intro b1;refine go ?_;refine zA (zMb (d:=k.decl) (vh:=vh) (vs:=vs) (vr:=vr) (vc:=vc) (vu:=vu) hS.d) (next:=fun y hy=>?_);obtain⟨ok,e,v1,v2,v3,v4,v5,v6⟩:=y;cases ok with
 |false=>
  obtain⟨he,hno⟩:=hy.2 rfl;have he:e≠0:=he;dsimp only[cond,blV,blF,List.nil_append];refine go ?_;intro b3;refine go ?_;first|with_reducible refine g_d (fun h1=>?_) (fun h1=>?_)|with_reducible refine g_n (fun h1=>?_) (fun h1=>?_)|with_reducible refine g_b (fun h1=>?_) (fun h1=>?_)
  ·exact absurd (Decidable.not_not.1 h1) he
  refine go ?_;exact q_fin false (hv:=rfl) (hp:=⟨(fun h=>by cases h),fun h=>absurd h.b hno⟩)
 |true=>
 obtain⟨he,hb⟩:=hy.1 rfl;have he:e=0:=he;subst he;clear hy;dsimp only[cond,blV,blF,List.cons_append,List.nil_append];refine go ?_;intro b3;refine go ?_;have hsm:=zO3 (x:=k) (y:=zIX (Kd.rslv k.decl)) (h1:=vh) (s1:=vs) (r1:=vr) (c1:=vc) (u1:=vu) (gh1:=gh) (gc1:=gc) (n1:=vn) (l1:=vl) (h2:=vh) (s2:=vs) (r2:=vr) (c2:=v1) (u2:=v2) (gh2:=v3) (gc2:=v4) (n2:=v5) (l2:=v6) hS;refine zX (fSl intE vh (zIX (Kd.rslv k.decl)).decl.holes) (fun w hw=>hw (fSl intE vh k.decl.holes) (by simp)) ?_;refine zX (fSl zET vs (zIX (Kd.rslv k.decl)).decl.symbols) (fun w hw=>hw (fSl zET vs k.decl.symbols) (by simp)) ?_;refine zX (fSl zEk vr (zIX (Kd.rslv k.decl)).decl.regions) (fun w hw=>hw (fSl zEk vr k.decl.regions) (by simp)) ?_;refine zX (fSl zAS v1 (zIX (Kd.rslv k.decl)).decl.clues) (fun w hw=>hw (fSl zAS v1 (Kd.rslv k.decl).clues) (by simp)) ?_;refine zX (fSl zn v2 (zIX (Kd.rslv k.decl)).decl.rules) (fun w hw=>hw (fSl zn v2 (Kd.rslv k.decl).rules) (by simp)) ?_;refine zX (fSl intE v3 (zIX (Kd.rslv k.decl)).grid.holes) (fun w hw=>hw (fSl intE v3 (zI (Kd.rslv k.decl)).holes) (by simp)) ?_;refine zX (fSl intE v4 (zIX (Kd.rslv k.decl)).grid.cells) (fun w hw=>hw (fSl intE v4 (zI (Kd.rslv k.decl)).cells) (by simp)) ?_;refine zX (fSl (slE intE) v5 (zIX (Kd.rslv k.decl)).nbs) (fun w hw=>hw (fSl (slE intE) v5 (nbsOf (zI (Kd.rslv k.decl)))) (by simp)) ?_;refine zX (fSl (slE (slE intE)) v6 (zIX (Kd.rslv k.decl)).lists) (fun w hw=>hw (fSl (slE (slE intE)) v6 (listsOf (Kd.rslv k.decl))) (by simp)) ?_;refine zA hsm (next:=fun _ _=>?_);refine go ?_;refine zJK rfl (fun h3=>?_) (fun h3=>?_)
 ·refine go ?_;exact q_fin false (hv:=rfl) (hp:=⟨(fun h=>by cases h),fun h=>absurd h.e h3⟩)
 ·refine go ?_;exact q_fin true (hv:=rfl) (hp:=⟨fun _=>⟨hb,h3⟩,fun _=>rfl⟩)
end Go.Proofs.YtpkieeggilkagaaGreat
namespace Go.Proofs.YtpkieeggilkagaaGreat
open Go.Ideal Kd Canon
theorem zNG(x:Int):FnP Tryz.prog 203 [.int .i64 x] [] (.bool false):=by
 refine zE _ (isC 203) fun B w0=>?_;refine go ?_;refine q_fin () (hv:=?_) (hp:=trivial);simp[zK8]
theorem zNW(x y:Int):FnP Tryz.prog 160 [.int .i64 x,.int .i64 y] [] (.int .i64 (zFq x y)):=by
 refine zE _ (isC 160) fun B w0=>?_;refine go ?_;refine zA (zNG x) (next:=fun _ _=>?_);refine go ?_;refine zA (zNG y) (next:=fun _ _=>?_);refine go ?_;refine if_d rfl (fun h1=>?_) (fun h1=>?_)
 ·refine go ?_;refine q_fin () (hv:=?_) (hp:=trivial);rw[zFq,if_pos h1];rfl
 refine go ?_;refine if_d rfl (fun h2=>?_) (fun h2=>?_)
 ·refine go ?_;refine q_fin () (hv:=?_) (hp:=trivial);rw[zFq,if_neg h1,if_pos h2];rfl
 refine go ?_;refine q_fin () (hv:=?_) (hp:=trivial);rw[zFq,if_neg h1,if_neg h2];rfl
theorem zS2{α:Type}{xs:List α}{k:Nat}{x:α}(h:xs[k]? =some x):xs.drop k=x::xs.drop (k+1):=by
 obtain⟨hlt,he⟩:=List.getElem?_eq_some_iff.1 h;rw[List.drop_eq_getElem_cons hlt,he]
theorem zOD{v:Value}{xs:List Int}(hl:xs.length<9223372036854775808):FnP Tryz.prog 159 [v] [fSl intE v xs] (.int .i64 (zB6 xs)):=by
 refine zE _ (isC 159) fun B w0=>?_;refine go ?_;refine zH (fun k=>xs.length - k) (fun k:Nat=>[(8,.int .i64 (k:Int))]) (fun _=>[]) (fun _=>[]) (fun k=>k≤xs.length∧zB6 xs=zB6 (xs.drop k)) 0 ⟨by omega,rfl⟩ (body:=?_);rintro k ⟨hk,hf⟩;refine go ?_;refine if_d rfl (fun h1=>?_) (fun h1=>?_)
 ·refine go ?_;intro _ _ x hx;have hd:=zS2 hx;refine go ?_;refine if_d rfl (fun h2=>?_) (fun h2=>?_)
  ·refine go ?_;refine q_fin () (hv:=?_) (hp:=trivial);rw[hf,hd,zB6,if_pos h2];rfl
  ·refine go ?_;refine zB (k+1) (by show xs.length - (k+1)<xs.length - k;omega) ⟨by omega,?_⟩;rw[hf,hd,zB6,if_neg h2]
 have hk:k=xs.length:=by omega
 refine go ?_;refine q_fin () (hv:=?_) (hp:=trivial);rw[hf,hk,List.drop_length];rfl
theorem zGg{a b:zm}{va vb:Value}:FnP Tryz.prog 115 [zTb a va,zTb b vb] [] (.int .i64 (plc a b)):=by
 refine zE _ (isC 115) fun B w0=>?_;refine go ?_;intro b2 b3;refine go ?_;refine zA (zNW a.clue b.clue) (next:=fun _ _=>?_);refine go ?_;refine zA (zNW a.at_ b.at_) (next:=fun _ _=>?_);refine go ?_;intro b15;refine zK (A:=pt b15 (.cells [.int .i64 (zFq a.clue b.clue),.int .i64 (zFq a.at_ b.at_)])) (fs:=[fSl intE (.slice (some ⟨b15,0,some 0⟩) 2 2) [zFq a.clue b.clue,zFq a.at_ b.at_]]) (zCm (b:=b15) (f:=0) (c:=2) (xs:=[zFq a.clue b.clue,zFq a.at_ b.at_])) (h:=?_);refine go ?_;refine zA (zOD (xs:=[zFq a.clue b.clue,zFq a.at_ b.at_]) (by simp)) (next:=fun _ _=>?_);refine go ?_;exact q_fin () (hv:=rfl) (hp:=trivial)
structure zLH(p:List zm):Prop where
 len:p.length<9223372036854775808
 vals:∀g∈p,g.values.length<9223372036854775808
theorem zPq{k:Knd}{g:zm}{vh vs vr vc vu gh gc vn vl vv:Value}(hS:zHH k)(hF:zLv k)(hv:g.values.length<9223372036854775808):
 FnC Tryz.prog (.func 114) [.agg ⟨zFl k vh vs vr vc vu gh gc vn vl⟩,zTb g vv] [] [] (fSl intE vv g.values::zEs k vh vs vr vc vu gh gc vn vl []) (fun b:Bool=>.bool b) (fun _=>[]) (fun _=>[]) (fun b=>b=true↔zCL k g):=by
 have hcl:=hS.d.s.clus;have hsl:=hS.d.s.syms;refine zE _ (isC 114) fun B w0=>?_;refine zR (E:=zAS) (v:=vc) (xs:=k.decl.clues) (by simp) fun ac cc ec=>?_;subst ec;refine zR (E:=zET) (v:=vs) (xs:=k.decl.symbols) (by simp) fun as1 cs1 es1=>?_;subst es1;refine zR (E:=slE (slE intE)) (v:=vl) (xs:=k.lists) (by simp) fun al cl el=>?_;subst el;refine zR (E:=intE) (v:=vv) (xs:=g.values) (by simp) fun av cv ev1=>?_;subst ev1;refine go ?_;intro b2 b3;refine zK (zN (b:=b2)) (h:=?_);refine zK (zN (b:=b3)) (h:=?_);refine go ?_;first|with_reducible refine g_d (fun h1=>?_) (fun h1=>?_)|with_reducible refine g_n (fun h1=>?_) (fun h1=>?_)|with_reducible refine g_b (fun h1=>?_) (fun h1=>?_)
 rotate_left
 ·refine go ?_;exact q_fin false (hv:=rfl) (hp:=⟨(fun h=>by cases h),fun⟨c,l,h,_⟩=>by omega⟩)
 refine go ?_;refine if_d rfl (fun h2=>?_) (fun h2=>?_)
 ·refine go ?_;refine q_fin false (hv:=rfl) (hp:=⟨(fun h=>by cases h),fun⟨c,l,_,h,_⟩=>?_⟩);have:=(List.getElem?_eq_some_iff.1 h).1;omega
 obtain⟨ci,hci⟩:=Int.eq_ofNat_of_zero_le (show 0≤g.clue by omega);have hg0:0≤g.clue:=by omega
 have hcl2:ci<k.decl.clues.length:=by omega
 have htn:g.clue.toNat=ci:=by omega
 refine go ?_;rw[hci];refine zV zAS (xs:=k.decl.clues) (next:=fun _ _ c (_:Unit) hc=>?_);obtain⟨hf0,hf1⟩:=hF c (List.mem_of_getElem? hc);refine go ?_;intro b5;refine go ?_;first|with_reducible refine g_d (fun h3=>?_) (fun h3=>?_)|with_reducible refine g_n (fun h3=>?_) (fun h3=>?_)|with_reducible refine g_b (fun h3=>?_) (fun h3=>?_)
 rotate_left
 ·refine go ?_;exact q_fin false (hv:=rfl) (hp:=⟨(fun h=>by cases h),fun⟨c,l,_,_,_,h,_⟩=>by omega⟩)
 refine go ?_;obtain⟨fi,hfi⟩:=Int.eq_ofNat_of_zero_le hf0;have hftn:c.family.toNat=fi:=by omega
 rw[hfi];refine zV (slE (slE intE)) (xs:=k.lists) (next:=fun _ _ ls (vls:Value) hls=>?_);refine go ?_;refine if_d rfl (fun h4=>?_) (fun h4=>?_)
 ·refine go ?_;refine q_fin false (hv:=rfl) (hp:=⟨(fun h=>by cases h),fun⟨c',l',_,q1,q2,q3,q4,_⟩=>?_⟩);rw[htn,hc]at q1;cases q1;rw[hftn,hls]at q2;cases q2;omega
 have hR:∀b:Bool,(b=true↔((c.type=1∧g.values.length=1∧∀x∈g.values,0≤x∧x≤(k.decl.symbols.length:Int) - 1)∨(c.type=2∧g.values.length=1∧∀x∈g.values,c.lo≤x∧x≤c.hi)∨
  (c.type≠1∧c.type≠2∧g.values.length≤8∧∀x∈g.values,1≤x∧x≤256)))→(b=true↔zCL k g):=fun b hb=>by
  rw[hb];refine⟨fun h=>⟨c,ls,hg0,by rw[htn];exact hc,by rw[hftn];exact hls,by omega,by omega,h⟩,fun⟨c',l',_,q1,_,_,_,h⟩=>?_⟩;rw[htn,hc]at q1;cases q1;exact h
 refine go ?_;refine if_d rfl (fun h5=>?_) (fun h5=>?_)
 ·refine go ?_;first|with_reducible refine g_d (fun h6=>?_) (fun h6=>?_)|with_reducible refine g_n (fun h6=>?_) (fun h6=>?_)|with_reducible refine g_b (fun h6=>?_) (fun h6=>?_)
  ·refine go ?_;exact q_fin false (hv:=rfl) (hp:=hR _ ⟨(fun h=>by cases h),fun h=>by exfalso;omega⟩)
  refine go ?_;refine zA (zBF (xs:=g.values) (lo:=0) (hi:=(k.decl.symbols.length:Int) - 1) hv) (next:=fun _ _=>?_);refine go ?_;refine q_fin (wit g.values 0 ((k.decl.symbols.length:Int) - 1)) (hv:=rfl) (hp:=hR _ ?_);unfold wit;rw[decide_eq_true_iff];exact⟨fun h=>.inl ⟨h5,by omega,h⟩,fun h=>by rcases h with h|h|h;exact h.2.2;exact absurd h5 (by omega);exact absurd h5 h.1⟩
 refine go ?_;refine if_d rfl (fun h6=>?_) (fun h6=>?_)
 ·refine go ?_;first|with_reducible refine g_d (fun h7=>?_) (fun h7=>?_)|with_reducible refine g_n (fun h7=>?_) (fun h7=>?_)|with_reducible refine g_b (fun h7=>?_) (fun h7=>?_)
  ·refine go ?_;exact q_fin false (hv:=rfl) (hp:=hR _ ⟨(fun h=>by cases h),fun h=>by exfalso;omega⟩)
  refine go ?_;refine zA (zBF (xs:=g.values) (lo:=c.lo) (hi:=c.hi) hv) (next:=fun _ _=>?_);refine go ?_;refine q_fin (wit g.values c.lo c.hi) (hv:=rfl) (hp:=hR _ ?_);unfold wit;rw[decide_eq_true_iff];exact⟨fun h=>.inr (.inl ⟨h6,by omega,h⟩),fun h=>by rcases h with h|h|h;exact absurd h.1 h5;exact h.2.2;exact absurd h6 h.2.1⟩
 refine go ?_;first|with_reducible refine g_d (fun h7=>?_) (fun h7=>?_)|with_reducible refine g_n (fun h7=>?_) (fun h7=>?_)|with_reducible refine g_b (fun h7=>?_) (fun h7=>?_)
 ·refine go ?_;exact q_fin false (hv:=rfl) (hp:=hR _ ⟨(fun h=>by cases h),fun h=>by exfalso;omega⟩)
 refine go ?_;refine zA (zBF (xs:=g.values) (lo:=1) (hi:=256) hv) (next:=fun _ _=>?_);refine go ?_;refine q_fin (wit g.values 1 256) (hv:=rfl) (hp:=hR _ ?_);unfold wit;rw[decide_eq_true_iff];exact⟨fun h=>.inr (.inr ⟨h5,h6,by omega,h⟩),fun h=>by rcases h with h|h|h;exact absurd h.1 h5;exact absurd h.1 h6;exact h.2.2.2⟩
end Go.Proofs.YtpkieeggilkagaaGreat
namespace Go.Proofs.YtpkieeggilkagaaGreat
open Go.Ideal Kd Canon
theorem zO.decl{k:Knd}(h:zO k):k.decl=Kd.rslv k.decl:=congrArg Knd.decl h.e
theorem zO.lists{k:Knd}(h:zO k):k.lists=listsOf k.decl:=by
 have:=congrArg Knd.lists h.e;have h2:(zIX (Kd.rslv k.decl)).lists=listsOf (Kd.rslv k.decl):=rfl;rw[h2,← h.decl]at this;exact this
theorem zO.grid{k:Knd}(h:zO k):k.grid=zI k.decl:=by
 have:=congrArg Knd.grid h.e;have h2:(zIX (Kd.rslv k.decl)).grid=zI (Kd.rslv k.decl):=rfl;rw[h2,← h.decl]at this;exact this
theorem zO.nbs{k:Knd}(h:zO k):k.nbs=nbsOf (zI k.decl):=by
 have:=congrArg Knd.nbs h.e;have h2:(zIX (Kd.rslv k.decl)).nbs=nbsOf (zI (Kd.rslv k.decl)):=rfl;rw[h2,← h.decl]at this;exact this
theorem zO.typ{k:Knd}(h:zO k):zOW k.decl:=by
 have:=h.b.typ;rw[← h.decl]at this;exact this
theorem zO.fam{k:Knd}(h:zO k):zLv k:=by
 intro c hc;rw[h.decl]at hc;obtain⟨q,hq,rfl⟩:=List.mem_map.1 (show c∈k.decl.clues.map (zR6 (zBR k.decl))from hc);have h1:=zCR (h.b.rs.cluOn q hq);have h2:(zBR k.decl).length=8+k.decl.regions.length:=by
  unfold zBR;rw[List.length_append,List.length_map];rfl
 have h3:k.lists.length=8+k.decl.regions.length:=by
  rw[h.lists];unfold listsOf;rw[List.length_append,List.length_map,List.length_map,List.length_range]
 show 0≤((posn q.on (zBR k.decl):Nat):Int)∧((posn q.on (zBR k.decl):Nat):Int)<_;omega
theorem zH9{k:Knd}{p:List zm}{vh vs vr vc vu gh gc vn vl vp:Value}(hS:zHH k)(hP:zLH p):
 FnC Tryz.prog (.func 53) [.agg ⟨zFl k vh vs vr vc vu gh gc vn vl⟩,.agg ⟨[vp]⟩] [] [] (fSl gvnE vp p::zEs k vh vs vr vc vu gh gc vn vl []) (fun e:Int=>.int .i64 e) (fun _=>[]) (fun _=>[])
  (fun e=>(¬zO k→e=180)∧(zO k→¬zAM k p→e=190)∧(zO k→zAM k p→e=0)):=by
 refine zE _ (isC 53) fun B w0=>?_;refine zR (E:=gvnE) (v:=vp) (xs:=p) (by simp) fun ap1 cp ep=>?_;subst ep;refine go ?_;intro b2 b3;refine zK (zN (b:=b2)) (h:=?_);refine zK (zN (b:=b3)) (h:=?_);refine go ?_;refine zA (zHy (k:=k) (vh:=vh) (vs:=vs) (vr:=vr) (vc:=vc) (vu:=vu) (gh:=gh) (gc:=gc) (vn:=vn) (vl:=vl) hS) (next:=fun b hb=>?_);cases b with
 |false=>
  have hno:¬zO k:=fun h=>by have:=hb.2 h;cases this
  dsimp only[cond];refine go ?_;exact q_fin 180 (hv:=rfl) (hp:=⟨fun _=>rfl,fun h=>absurd h hno,fun h=>absurd h hno⟩)
 |true=>
 have hK:=hb.1 rfl;clear hb;have hend:¬zAM k p→(¬zO k→(190:Int)=180)∧(zO k→¬zAM k p→(190:Int)=190)∧(zO k→zAM k p→(190:Int)=0):=fun hn=>⟨fun h=>absurd hK h,fun _ _=>rfl,fun _ h=>absurd h hn⟩
 dsimp only[cond];refine go ?_;refine if_d rfl (fun h1=>?_) (fun h1=>?_)
 ·refine go ?_;exact q_fin 190 (hv:=rfl) (hp:=hend fun h=>by have:=h.len;omega)
 refine go ?_;refine zH (fun j:Nat=>p.length - j) (fun j=>[(17,.int .i64 (j:Int))]) (fun _=>[]) (fun _=>[]) (fun j=>j≤p.length∧(∀g∈p.take j,zCL k g)∧∀(i:Nat) a b,i+1<j→p[i]? =some a→p[i+1]? =some b→plc a b<0) 0 ⟨Nat.zero_le _,by simp,fun i a b h=>by omega⟩ (body:=?_);rintro j ⟨hj,hall,hs⟩;refine go ?_;refine if_d rfl (fun h2=>?_) (fun h2=>?_)
 ·refine go ?_;refine zV gvnE (xs:=p) (next:=fun _ _ g (vg:Value) hg=>?_);have hgm:=List.mem_of_getElem? hg;have htk:=zP hg;refine go ?_;intro b6;refine go ?_;refine zA (zPq (k:=k) (g:=g) (vh:=vh) (vs:=vs) (vr:=vr) (vc:=vc) (vu:=vu) (gh:=gh) (gc:=gc) (vn:=vn) (vl:=vl) (vv:=vg) hS hK.fam (hP.vals g hgm)) (next:=fun b hb=>?_);cases b with
  |false=>
   refine go ?_;exact q_fin 190 (hv:=rfl) (hp:=hend fun h=>by have:=hb.2 (h.right g hgm);cases this)
  |true=>
  have hR:=hb.1 rfl;have hall2:∀x∈p.take (j+1),zCL k x:=by
   rw[htk];intro x hx;rcases List.mem_append.1 hx with hx|hx
   ·exact hall x hx
   ·rw[List.mem_singleton.1 hx];exact hR
  refine go ?_;first|with_reducible refine g_d (fun h3=>?_) (fun h3=>?_)|with_reducible refine g_n (fun h3=>?_) (fun h3=>?_)|with_reducible refine g_b (fun h3=>?_) (fun h3=>?_)
  ·have hj0:j=0:=by omega
   subst hj0;refine go ?_;exact zB 1 (by show p.length - 1<p.length - 0;omega) ⟨by omega,hall2,fun i a b h=>by omega⟩
  obtain⟨i,rfl⟩:∃i,j=i+1:=⟨j - 1,by omega⟩
  refine go ?_;rw[show((i+1:Nat):Int) - 1=(i:Int)by omega];refine zV gvnE (xs:=p) (next:=fun _ _ g0 (vg0:Value) hg0=>?_);refine go ?_;refine zA (zGg (a:=g0) (b:=g) (va:=vg0) (vb:=vg)) (next:=fun _ _=>?_);refine go ?_;refine if_d rfl (fun h4=>?_) (fun h4=>?_)
  ·refine go ?_;exact q_fin 190 (hv:=rfl) (hp:=hend fun h=>by have:=h.sorted i g0 g hg0 hg;omega)
  ·refine go ?_;refine zB (i+1+1) (by show p.length - (i+1+1)<p.length - (i+1);omega) ⟨by omega,hall2,fun i' a b h ha hb=>?_⟩;by_cases e:i'=i
   ·subst e;rw[hg0]at ha;rw[hg]at hb;cases ha;cases hb;omega
   ·exact hs i' a b (by omega) ha hb
 have hje:j=p.length:=by omega
 subst hje;rw[List.take_length]at hall;refine go ?_;exact q_fin 0 (hv:=rfl) (hp:=⟨fun h=>absurd hK h,fun _ h=>absurd ⟨by omega,hall,fun i a b ha hb=>hs i a b (List.getElem?_eq_some_iff.1 hb).1 ha hb⟩ h,fun _ _=>rfl⟩)
abbrev zG5(k:Knd)(grid:List Int):Prop:=Fin (k.grid.cells.length:Int) (k.decl.symbols.length:Int) grid
theorem zRC{k:Knd}{grid:List Int}{vh vs vr vc vu gh gc vn vl vg:Value}(hS:zHH k)(hl:grid.length<9223372036854775808):
 FnC Tryz.prog (.func 17) [.agg ⟨zFl k vh vs vr vc vu gh gc vn vl⟩,vg] [] [] (fSl intE vg grid::zEs k vh vs vr vc vu gh gc vn vl []) (fun e:Int=>.int .i64 e) (fun _=>[]) (fun _=>[])
  (fun e=>(¬zO k→e=180)∧(zO k→¬zG5 k grid→e=200)∧(zO k→zG5 k grid→e=0)):=by
 refine zE _ (isC 17) fun B w0=>?_;dsimp only[zEs];refine go ?_;intro b2;refine go ?_;refine zA (zHy (k:=k) (vh:=vh) (vs:=vs) (vr:=vr) (vc:=vc) (vu:=vu) (gh:=gh) (gc:=gc) (vn:=vn) (vl:=vl) hS) (next:=fun b hb=>?_);cases b with
 |false=>
  have hno:¬zO k:=fun h=>by have:=hb.2 h;cases this
  dsimp only[cond];refine go ?_;exact q_fin 180 (hv:=rfl) (hp:=⟨fun _=>rfl,fun h=>absurd h hno,fun h=>absurd h hno⟩)
 |true=>
 have hK:=hb.1 rfl;clear hb;dsimp only[cond];refine go ?_;refine zA (zFR (cells:=(k.grid.cells.length:Int)) (symbols:=(k.decl.symbols.length:Int)) (grid:=grid) hl) (next:=fun b hb=>?_);cases b with
 |false=>
  have hno:¬zG5 k grid:=fun h=>by have:=hb.2 h;cases this
  refine go ?_;exact q_fin 200 (hv:=rfl) (hp:=⟨fun h=>absurd hK h,fun _ _=>rfl,fun _ h=>absurd h hno⟩)
 |true=>
  have hf:=hb.1 rfl;refine go ?_;exact q_fin 0 (hv:=rfl) (hp:=⟨fun h=>absurd hK h,fun _ h=>absurd hf h,fun _ _=>rfl⟩)
structure zUu(k:Knd)(p:List zm)(grid:List Int)(e:Int):Prop where
 nk:¬zO k→e=180
 nf:zO k→¬zG5 k grid→e=200
 np:zO k→zG5 k grid→¬zAM k p→e=190
 ok:zO k→zG5 k grid→zAM k p→e=0
theorem zMp{k:Knd}{p:List zm}{grid:List Int}{vh vs vr vc vu gh gc vn vl vp vg:Value}(hS:zHH k)(hP:zLH p)(hl:grid.length<9223372036854775808):
 FnC Tryz.prog (.func 34) [.agg ⟨zFl k vh vs vr vc vu gh gc vn vl⟩,.agg ⟨[vp]⟩,vg] [] [] (fSl gvnE vp p::fSl intE vg grid::zEs k vh vs vr vc vu gh gc vn vl []) (fun e:Int=>.int .i64 e) (fun _=>[]) (fun _=>[]) (zUu k p grid):=by
 refine zE _ (isC 34) fun B w0=>?_;refine zR (E:=gvnE) (v:=vp) (xs:=p) (by simp) fun ap1 cp ep=>?_;subst ep;refine go ?_;intro b3 b4;refine zK (zN (b:=b3)) (h:=?_);refine zK (zN (b:=b4)) (h:=?_);refine go ?_;refine zA (zRC (k:=k) (grid:=grid) (vh:=vh) (vs:=vs) (vr:=vr) (vc:=vc) (vu:=vu) (gh:=gh) (gc:=gc) (vn:=vn) (vl:=vl) hS hl) (next:=fun e he=>?_);obtain⟨h1,h2,h3⟩:=he;refine go ?_;refine if_d rfl (fun hne=>?_) (fun hz=>?_)
 ·refine go ?_;exact q_fin e (hv:=rfl) (hp:=⟨h1,h2,fun a b _=>absurd (h3 a b) hne,fun a b _=>absurd (h3 a b) hne⟩)
 have hz:e=0:=Decidable.not_not.1 hz;subst hz;have hK:zO k:=Classical.byContradiction fun h=>by have:=h1 h;omega
 have hF:zG5 k grid:=Classical.byContradiction fun h=>by have:=h2 hK h;omega
 refine go ?_;refine zA (zH9 (k:=k) (p:=p) (vh:=vh) (vs:=vs) (vr:=vr) (vc:=vc) (vu:=vu) (gh:=gh) (gc:=gc) (vn:=vn) (vl:=vl) hS hP) (next:=fun e he=>?_);refine go ?_;exact q_fin e (hv:=rfl) (hp:=⟨fun h=>absurd hK h,fun _ h=>absurd hF h,fun _ _ h=>he.2.1 hK h,fun _ _ h=>he.2.2 hK h⟩)
end Go.Proofs.YtpkieeggilkagaaGreat
