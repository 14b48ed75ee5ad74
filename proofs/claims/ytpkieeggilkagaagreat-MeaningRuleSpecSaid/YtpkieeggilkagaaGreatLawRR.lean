/-
  Part LawRR.
-/
import Derived.Test.YtpkieeggilkagaaGreatLibVR
import Derived.Test.YtpkieeggilkagaaGreatSaneCR
set_option linter.all false
set_option maxRecDepth 10000
set_option maxHeartbeats 4000000
namespace Go.Proofs.YtpkieeggilkagaaGreat
open Go.Ideal Kd Canon Gph
theorem Bn.uniq{k:bR}{p:List Clue}{grid:List Int}{i:Int}{x y:Bool×Int}(h1:Bn k p grid i x)(h2:Bn k p grid i y):x=y:=by
 by_cases a:eH k
 ·by_cases b:mF k grid
  ·by_cases c:jO k p
   ·by_cases d:i<0\/(k.decl.rules.length:Int)<=i
    ·rw[h1.na a b c d,h2.na a b c d]
    ·obtain⟨n,rfl⟩:=dZ (show 0<=i by omega);have hr:k.decl.rules[n]? =some (k.decl.rules[n]'(by omega)):=bN _;rw[h1.ok a b c n _ rfl hr,h2.ok a b c n _ rfl hr]
   ·rw[h1.np a b c,h2.np a b c]
  ·rw[h1.nf a b,h2.nf a b]
 ·rw[h1.nk a,h2.nk a]
theorem Dk.uniq{k:bR}{p:List Clue}{grid:List Int}{x y:Int}(h1:Dk k p grid x)(h2:Dk k p grid y):x=y:=by
 by_cases a:eH k
 ·by_cases b:mF k grid
  ·by_cases c:jO k p
   ·rw[h1.ok a b c,h2.ok a b c]
   ·rw[h1.np a b c,h2.np a b c]
  ·rw[h1.nf a b,h2.nf a b]
 ·rw[h1.nk a,h2.nk a]
theorem ai3{k:bR}{p:List Clue}{grid:List Int}{rl:Int}{vh vs vr vc vu gh gc vn vl vp vg:Value}(hB:F8 k)(hP:qO p)(hl:grid.length<9223372036854775808):
 bV Tryz.prog 3 [.agg ⟨jq k vh vs vr vc vu gh gc vn vl⟩,.agg ⟨[vp]⟩,vg,.int .i64 rl] (ah jh vp p::ah aa vg grid::iB k vh vs vr vc vu gh gc vn vl []) (.bool true):=by
 refine aC _ (aF 3) λB w0=>?_;dsimp only[iB];refine go ?_;intro b4 b5;refine go ?_;refine aj aei (next:=λ_ _=>?_);refine go ?_;refine aj (ahg (k:=k) (p:=p) (grid:=grid) hB) (next:=λb hb=>?_);cases b with
 |false=>
  refine go ?_;exact ae () (hv:=rfl) (hp:=trivial)
 |true=>
 obtain⟨hfk,hpl,hgl⟩:=hb rfl;clear hb;have hS:=lJ.of hB hfk;have hA:=ahi (grid:=grid) hS hP (by omega);refine go ?_;refine aj (ahm (k:=k) (p:=p) (grid:=grid) (i:=rl) hS hP hl hA) (next:=λy1 hy1=>?_);refine go ?_;refine aj (ai1 (k:=k) (p:=p) (grid:=grid) (i:=rl) hS hP hl hA) (next:=λy2 hy2=>?_);have e:=hy1.uniq hy2;subst e;clear hy2;obtain⟨hd,e1⟩:=y1;refine go ?_;refine aj (ahe (k:=k) (p:=p) (grid:=grid) hS hP hl hA) (next:=λy3 hy3=>?_);obtain⟨v3,e3⟩:=y3;obtain⟨hy3,hv3⟩:=hy3;dsimp only at hy3 hv3⊢;refine go ?_;refine aj (ai2 (k:=k) (p:=p) (grid:=grid) hS hP hl hA) (next:=λy4 hy4=>?_);obtain⟨v4,e4⟩:=y4;obtain⟨hy4,hv4⟩:=hy4;dsimp only at hy4 hv4⊢;have e:=hy3.uniq hy4;subst e;refine go ?_;refine aj (VS (k:=k) (grid:=grid) hS hl) (next:=λe5 Ph=>?_);refine go ?_;refine aj (Pg (k:=k) (grid:=grid) hS hl) (next:=λe6 Pj=>?_);have e:e5=e6:=by
  by_cases a:eH k
  ·by_cases b:mF k grid
   ·rw[Ph.2.2 a b,Pj.2.2 a b]
   ·rw[Ph.2.1 a b,Pj.2.1 a b]
  ·rw[Ph.1 a,Pj.1 a]
 subst e;by_cases hz:e3=0
 ·subst hz;generalize hbr:jr k p grid k.decl.rules=l1;have hbl:l1.length<9223372036854775808:=by
   have h1:l1.length<=k.decl.rules.length:=hbr▸OQ k p grid k.decl.rules;have:=hS.d.s.jP;omega
  refine fD (ah aa v3 l1) (λw hw=>hw (kX ((0:Int)=0) (ah aa v3 l1)) (by simp) rfl) ?_;refine fD (ah aa v4 l1) (λw hw=>hw (kX ((0:Int)=0) (ah aa v4 l1)) (by simp) rfl) ?_;cases hd<;>
  ·iterate 8 (first|with_reducible refine lV (λh=>absurd rfl h) (λ_=>?_)|with_reducible refine kV (λh=>absurd rfl h) (λ_=>?_)|(refine go ?_))
   refine aj (NZ (xs:=l1) (ys:=l1) hbl) (next:=λ_ _=>?_);rw[dQ (rfl:l1=l1)];iterate 6 (first|with_reducible refine lV (λh=>absurd rfl h) (λ_=>?_)|with_reducible refine kV (λh=>absurd rfl h) (λ_=>?_)|(refine go ?_))
   refine ae () (hv:=?_) (hp:=trivial);simp;rfl
 ·have h3:=hv3 hz;have h4:=hv4 hz;subst h3 h4;cases hd<;>
  ·iterate 8 (first|with_reducible refine lV (λh=>absurd rfl h) (λ_=>?_)|with_reducible refine kV (λh=>absurd rfl h) (λ_=>?_)|(refine go ?_))
   refine WH _ (aiO aa) ?_;refine aj (NZ (xs:=[]) (ys:=[]) (by decide)) (next:=λ_ _=>?_);rw[dQ (rfl:([]:List Int)=[])];iterate 6 (first|with_reducible refine lV (λh=>absurd rfl h) (λ_=>?_)|with_reducible refine kV (λh=>absurd rfl h) (λ_=>?_)|(refine go ?_))
   refine ae () (hv:=?_) (hp:=trivial);simp;rfl
