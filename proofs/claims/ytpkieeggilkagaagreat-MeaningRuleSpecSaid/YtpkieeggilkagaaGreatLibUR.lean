/-
  Part LibUR.
-/
import Derived.Test.YtpkieeggilkagaaGreatLibCR
import Derived.Test.YtpkieeggilkagaaGreatLibTR
set_option linter.all false
set_option maxRecDepth 10000
set_option maxHeartbeats 4000000
namespace Go.Proofs.YtpkieeggilkagaaGreat
open Go.Ideal Kd Canon Gph
theorem WH{B:List Nat}{w0:Wd}{kl:List OA}{F:List aL}{Q:IH->Prop}(f:aL)(hf:∀w,f.p w)(h:R Q B w0 kl (f::F)):R Q B w0 kl F:=λw s=>
 h w ⟨s.agree,s.le,s.gp,s.own,λg hg=>by
  rcases dG.1 hg with rfl|hg
  ·exact hf w
  ·exact s.facts g hg⟩
theorem aiO{α:Type}(E:Enc α)(w:Wd):(ah E (.slice none 0 0) []).p w:=.inl ⟨rfl,none,0,rfl,trivial⟩
theorem WI{n op b:Int}(h:1<=op/\op<=3):bV Tryz.prog 181 [.int .i64 n,.int .i64 op,.int .i64 b] [] (.bool (qJ n op b)):=by
 refine aC _ (aF 181) λB w0=>?_;refine go ?_;refine ay rfl (λh1=>?_) (λh1=>?_)
 ·refine go ?_;refine ae () (hv:=?_) (hp:=trivial);subst h1;rw[show qJ n 1 b=decide (n=b)by simp[qJ]];rfl
 refine go ?_;refine ay rfl (λh2=>?_) (λh2=>?_)
 ·refine go ?_;refine ae () (hv:=?_) (hp:=trivial);subst h2;rw[show qJ n 2 b=decide (n<=b)by simp[qJ]];rfl
 refine go ?_;refine ae () (hv:=?_) (hp:=trivial);obtain rfl:op=3:=by omega
 rw[show qJ n 3 b=decide (b<=n)by simp[qJ]];rfl
theorem O9{k:bR}{vh vs vr vc vu gh gc vn vl:Value}(hs:k.decl.symbols.length<=4096):aV Tryz.prog (.func 135) [.agg ⟨jq k vh vs vr vc vu gh gc vn vl⟩] [] [] [ah fo vs k.decl.symbols] (λv:Value=>v) (λ_=>[]) (λv=>[ah aa v (gD k)]) (λ_=>True):=by
 refine aC _ (aF 135) λB w0=>?_;refine aT (E:=fo) (v:=vs) (xs:=k.decl.symbols) (by simp) λoz cs1 es1=>?_;subst es1;refine go ?_;intro b1;refine go ?_;refine fJ aa ?_;refine aR (λx=>k.decl.symbols.length - x.1) (λx:Nat×Value=>[(4,.int .i64 (x.1:Int)),(3,x.2)]) (λx=>[ap aa x.2 ((k.decl.symbols.take x.1).map (·.value))]) (λ_=>[]) (λx=>x.1<=k.decl.symbols.length) (0,.slice none 0 0) (bJ _)
  (hk:=by repeat (first|exact aJ.nil|(apply aJ.cons;(focus (repeat (first|exact aA.here|apply aA.there)))))) (body:=?_)
 rintro⟨j,v⟩ hj;dsimp only at hj⊢;have hjl:((k.decl.symbols.take j).map (·.value)).length=j:=by rw[dV,gL];omega
 refine go ?_;refine ay rfl (λh1=>?_) (λh1=>?_)
 ·refine go ?_;refine aU fo (xs:=k.decl.symbols) (next:=λ_ _ s (_:Unit) hs=>?_);have htk:(k.decl.symbols.take (j+1)).map (·.value)=(k.decl.symbols.take j).map (·.value)++[s.value]:=by rw[bS hs,ed,oW]
  refine go ?_;intro b21;refine eG (xs:=(k.decl.symbols.take j).map (·.value)) aa s.value () (by omega) (next:=λad=>?_);rw[<- htk];refine go ?_;exact aD (j+1,_) (by show k.decl.symbols.length - (j+1)<k.decl.symbols.length - j;omega) (by show j+1<=_;omega)
 have fK:j=k.decl.symbols.length:=by omega
 subst fK;rw[bC,show k.decl.symbols.map (·.value)=gD k from rfl];refine go ?_;refine aW (fG (E:=aa) (v:=v) (xs:=gD k)) (h:=?_);exact ae v (hv:=rfl) (hp:=trivial)
theorem WJ{n:Nat}(hn:n<=1000000):aV Tryz.prog (.func 94) [.int .i64 (n:Int)] [] [] [] (λv:Value=>v) (λ_=>[]) (λv=>[ah aa v (upTo' n)]) (λ_=>True):=by
 refine aC _ (aF 94) λB w0=>?_;refine go ?_;refine fJ aa ?_;refine aR (λx=>n - x.1) (λx:Nat×Value=>[(4,.int .i64 (x.1:Int)),(3,x.2)]) (λx=>[ap aa x.2 (upTo' x.1)]) (λ_=>[]) (λx=>x.1<=n) (0,.slice none 0 0) (bJ _)
  (hk:=by repeat (first|exact aJ.nil|(apply aJ.cons;(focus (repeat (first|exact aA.here|apply aA.there)))))) (body:=?_)
 rintro⟨j,v⟩ hj;dsimp only at hj⊢;have hjl:=oh j;refine go ?_;refine ay rfl (λh1=>?_) (λh1=>?_)
 ·refine go ?_;intro b12;refine eG (xs:=upTo' j) aa (j:Int) () (by omega) (next:=λad=>?_);rw[<- tN];refine go ?_;exact aD (j+1,_) (by show n - (j+1)<n - j;omega) (by show j+1<=_;omega)
 have fK:j=n:=by omega
 subst fK;refine go ?_;refine aW (fG (E:=aa) (v:=v) (xs:=upTo' j)) (h:=?_);exact ae v (hv:=rfl) (hp:=trivial)
theorem aiP{p:List Clue}{c a:Int}{j:Nat}{g:Clue}(hno:∀x∈p.take j,¬(x.aB=c/\x.at_=a))(hg:p[j]? =some g)(h1:g.aB=c)(h2:g.at_=a):om p c a=some g.values:=by
 unfold om;have hjl:=(bK.1 hg).1;have e:p=p.take j++g::p.drop (j+1):=by
  conv=>lhs;rw[<- su j p]
  rw[nR hjl,(bK.1 hg).2]
 rw[e,List.find?_append,PE.2 (λx hx=>by rw[yB];exact hno x hx),List.find?_cons_of_pos (by exact dQ ⟨h1,h2⟩)];rfl
theorem aiQ{p:List Clue}{c a:Int}(hno:∀x∈p,¬(x.aB=c/\x.at_=a)):om p c a=none:=by
 unfold om;rw[PE.2 (λx hx=>by rw[yB];exact hno x hx)];rfl
theorem WK{p:List Clue}{vp:Value}{c a:Int}(hl:p.length<9223372036854775808):aV Tryz.prog (.func 138) [.agg ⟨[vp]⟩,.int .i64 c,.int .i64 a] [] [] [ah jh vp p] (λv:Value=>.tuple ⟨[v,.bool (om p c a).isSome]⟩) (λ_=>[])
 (λv=>[ah aa v ((om p c a).getD [])]) (λ_=>True):=by
 refine aC _ (aF 138) λB w0=>?_;refine aT (E:=jh) (v:=vp) (xs:=p) (by simp) λOL cp ep=>?_;subst ep;refine go ?_;intro b3;refine aW (eB (b:=b3)) (h:=?_);refine go ?_;refine aR (λj:Nat=>p.length - j) (λj=>[(8,.int .i64 (j:Int))]) (λ_=>[]) (λ_=>[]) (λj=>j<=p.length/\∀g∈p.take j,¬(g.aB=c/\g.at_=a)) 0 ⟨bJ _,by simp⟩ (body:=?_);rintro j ⟨hj,hno⟩;refine go ?_;have hnext:∀g,p[j]? =some g->¬(g.aB=c/\g.at_=a)->∀x∈p.take (j+1),¬(x.aB=c/\x.at_=a):=λg hg hn x hx=>by
  rw[bS hg]at hx;rcases dB.1 hx with hx|hx
  ·exact hno x hx
  ·rw[bM.1 hx];exact hn
 refine ay rfl (λh1=>?_) (λh1=>?_)
 ·refine go ?_;refine aU jh (xs:=p) (next:=λ_ _ g (vg:Value) hg=>?_);refine go ?_;refine gG (λh2=>?_) (λh2=>?_)
  ·refine go ?_;exact aD (j+1) (by show p.length - (j+1)<p.length - j;omega) ⟨by omega,hnext g hg λe=>h2 e.1⟩
  refine go ?_;refine aU jh (xs:=p) (next:=λ_ _ g' (vg:Value) hg'=>?_);cases hg.symm.trans hg';refine go ?_;refine ay rfl (λh3=>?_) (λh3=>?_)
  rotate_left
  ·refine go ?_;exact aD (j+1) (by show p.length - (j+1)<p.length - j;omega) ⟨by omega,hnext g hg λe=>h3 e.2⟩
  refine go ?_;refine aU jh (xs:=p) (next:=λ_ _ g'' (Pb:Value) hg''=>?_);cases hg.symm.trans hg'';refine go ?_;rw[aiP hno hg h2 h3];refine fD (ah aa Pb ((some g.values).getD [])) (λw hw=>hw (ah aa Pb g.values) (by simp)) ?_;exact ae Pb (hv:=rfl) (hp:=trivial)
 have fK:j=p.length:=by omega
 subst fK;rw[bC]at hno;refine go ?_;rw[aiQ hno];refine WH (ah aa (.slice none 0 0) ((none:Option (List Int)).getD [])) (λw=>.inl ⟨rfl,none,0,rfl,trivial⟩) ?_;exact ae (.slice none 0 0) (hv:=rfl) (hp:=trivial)
def ig(k:bR)(grid:List Int)(r:bB)(set:Nat)(x:List Int×List Int):Bool:=
 if r.kind=1 then cA grid x else if r.kind=2 then cB grid set r.op x else if r.kind=3 then cC (gD k) grid r.op x else if r.kind=4 then cD (gD k) grid x else if r.kind=5 then cE grid set x else cK grid x
structure J5(k:bR)(grid:List Int)(r:bB)(set:Nat)(cells given vs:List Int):Prop where
 mG:oN grid
 cel:oq grid cells
 vals:AQ (gD k) grid
 cZ:k.decl.symbols.length<=4096
 st:r.set=(set:Int)/\set<9223372036854775808
 kind:(1<=r.kind/\r.kind<=5)\/r.kind=11
 op:r.kind=2\/r.kind=3->1<=r.op/\r.op<=3
 bound:r.kind=2\/r.kind=3->(r.aB<0/\vs=[r.n])\/(0<=r.aB/\given=vs/\0<vs.length)
 runs:r.kind=5->given=vs/\given.length<=1000000
 Dn:r.kind=11->given=vs/\given.length=1/\0<cells.length
def Du(r:bB)(given:List Int):Int:=if 0<=r.aB/\0<given.length then given.getD 0 0 else r.n
theorem J5.bd{k:bR}{grid:List Int}{r:bB}{set:Nat}{cells given vs:List Int}(h:J5 k grid r set cells given vs)(hk:r.kind=2\/r.kind=3):Du r given=vs.getD 0 0:=by
 unfold Du;rcases h.bound hk with⟨h1,rfl⟩|⟨h1,rfl,h2⟩
 ·rw[if_neg (by omega)];rfl
 ·rw[if_pos ⟨h1,h2⟩]
theorem Pd{p:Prop}(h:p:=by
 rcases hkk with e|e|e|e|e|e
 ·have hc:ig k grid r set (cells,vs)=zh grid cells:=by unfold ig;rw[if_pos e];rfl
  iterate 8 (first|(exfalso;omega)|(refine ay rfl (λ_=>?_) (λ_=>by exfalso;omega))|(refine ay rfl (λ_=>by exfalso;omega) (λ_=>?_))|(refine aj (aeU (cells:=cells) hg hcl) (next:=λ_ _=>?_))|(refine go ?_))
  rw[hc];exact ae () (hv:=rfl) (hp:=trivial)
 ·have hc:ig k grid r set (cells,vs)=qJ (cnt grid set cells:Int) r.op (vs.getD 0 0):=by unfold ig;rw[if_neg (by omega),if_pos e];rfl
  have h9:=h9.trans (H.bd (.inl e));iterate 4 (first|(refine ay rfl (λ_=>by exfalso;omega) (λ_=>?_))|(refine ay rfl (λ_=>?_) (λ_=>by exfalso;omega))|(refine go ?_))
  rw[hst];refine aj (aeW (cells:=cells) (set:=set) hg hcl hset) (next:=λ_ _=>?_);refine go ?_;rw[h9];refine aj (WI (H.op (.inl e))) (next:=λ_ _=>?_);refine go ?_;rw[hc];exact ae () (hv:=rfl) (hp:=trivial)
 ·have hc:ig k grid r set (cells,vs)=qJ (lI (gD k) grid cells) r.op (vs.getD 0 0):=by unfold ig;rw[if_neg (by omega),if_neg (by omega),if_pos e];rfl
  have h9:=h9.trans (H.bd (.inr e));iterate 6 (first|(refine ay rfl (λ_=>by exfalso;omega) (λ_=>?_))|(refine ay rfl (λ_=>?_) (λ_=>by exfalso;omega))|(refine go ?_))
  refine aj (O9 (k:=k) (vh:=vh) (vs:=zA) H.cZ) (next:=λwv _=>?_);refine go ?_;refine aj (aeX (values:=gD k) (cells:=cells) (vv:=wv) hg hcl H.vals) (next:=λ_ _=>?_);refine go ?_;rw[h9];refine aj (WI (H.op (.inr e))) (next:=λ_ _=>?_);refine go ?_;rw[hc];exact ae () (hv:=rfl) (hp:=trivial)
 ·have hc:ig k grid r set (cells,vs)=zi (gD k) grid cells:=by unfold ig;rw[if_neg (by omega),if_neg (by omega),if_neg (by omega),if_pos e];rfl
  iterate 8 (first|(refine ay rfl (λ_=>by exfalso;omega) (λ_=>?_))|(refine ay rfl (λ_=>?_) (λ_=>by exfalso;omega))|(refine go ?_))
  refine aj (O9 (k:=k) (vh:=vh) (vs:=zA) H.cZ) (next:=λwv _=>?_);refine go ?_;refine aj (ae2 (values:=gD k) (cells:=cells) (vv:=wv) hg hcl H.vals) (next:=λ_ _=>?_);refine go ?_;rw[hc];exact ae () (hv:=rfl) (hp:=trivial)
 ·obtain⟨rfl,hgl⟩:=H.runs e;have hc:ig k grid r set (cells,given)=decide (rn grid set 0 cells=given):=by unfold ig;rw[if_neg (by omega),if_neg (by omega),if_neg (by omega),if_neg (by omega),if_pos e];rfl
  have hrl:=FC grid set cells 0;have aki:=hcl.len;iterate 10 (first|(refine ay rfl (λ_=>by exfalso;omega) (λ_=>?_))|(refine ay rfl (λ_=>?_) (λ_=>by exfalso;omega))|(refine go ?_))
  rw[hst];refine aj (ae1 (grid:=grid) (cells:=cells) (set:=set) hg hcl hset) (next:=λv _=>?_);refine go ?_;refine aj (NZ (xs:=rn grid set 0 cells) (ys:=given) (by omega)) (next:=λ_ _=>?_);refine go ?_;rw[hc];exact ae () (hv:=rfl) (hp:=trivial)
 ·obtain⟨rfl,hgl,hcp⟩:=H.Dn e;iterate 11 (first|(refine ay rfl (λ_=>by exfalso;omega) (λ_=>?_))|(refine ay rfl (λ_=>?_) (λ_=>by exfalso;omega))|(refine go ?_))
  rw[show decide ((given.length:Int)=1)=true from dQ (by omega)];refine go ?_;intro _ _ x hx;have hx9:=Bl hx;obtain⟨hx1,hx2⟩:=hcl.cell x (aP hx);obtain⟨xn,rfl⟩:=dZ hx1;refine go ?_;intro _ _ y hy _ _ z hz;have hy:grid[xn]? =some y:=hy;have hz:given[0]? =some z:=hz;have hc:ig k grid r set (cells,given)=decide (y=z):=by
   unfold ig;rw[if_neg (by omega),if_neg (by omega),if_neg (by omega),if_neg (by omega),if_neg (by omega)];show decide (ol grid (cells.getD 0 0)=given.getD 0 0)=_;rw[hx9,vT hy,Bl hz]
  rw[hc];exact ae () (hv:=rfl) (hp:=trivial)):p:=h
theorem J6{k:bR}{grid:List Int}{r:bB}{set:Nat}{cells given vs:List Int}{vh zA vr vc vu gh gc vn vl v1 v2 vg qU Bq:Value}(H:J5 k grid r set cells given vs):
 bV Tryz.prog 139 [.agg ⟨jq k vh zA vr vc vu gh gc vn vl⟩,.agg ⟨gY r v1 v2⟩,vg,qU,Bq] [ah fo zA k.decl.symbols,ah aa vg grid,ah aa qU cells,ah aa Bq given] (.bool (ig k grid r set (cells,vs))):=by
 have hkk:r.kind=1\/r.kind=2\/r.kind=3\/r.kind=4\/r.kind=5\/r.kind=11:=by have:=H.kind;omega
 have hg:=H.mG;have hcl:=H.cel;obtain⟨hst,hset⟩:=H.st;refine aC _ (aF 139) λB w0=>?_;refine aT (E:=aa) (v:=Bq) (xs:=given) (by simp) λav cv F4=>?_;subst F4;refine go ?_;intro b5 b6;refine go ?_;refine gG (λh1=>?_) (λh1=>?_)
 ·have h9:r.n=Du r given:=(if_neg (by omega)).symm;refine go ?_;exact Pd
 refine go ?_;refine ay rfl (λh2=>?_) (λh2=>?_)
 ·refine go ?_;intro _ _ x0 hx0;have h9:x0=Du r given:=by unfold Du;rw[if_pos ⟨h1,by omega⟩,Bl hx0]
  refine go ?_;exact Pd
 ·have h9:r.n=Du r given:=(if_neg (by omega)).symm;refine go ?_;exact Pd
