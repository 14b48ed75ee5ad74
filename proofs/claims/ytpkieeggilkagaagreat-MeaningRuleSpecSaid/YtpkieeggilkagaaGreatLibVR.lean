/-
  Part LibVR.
-/
import Derived.Test.YtpkieeggilkagaaGreatLibUR
set_option linter.all false
set_option maxRecDepth 10000
set_option maxHeartbeats 4000000
namespace Go.Proofs.YtpkieeggilkagaaGreat
open Go.Ideal Kd Canon Gph
theorem J7{k:bR}{p:List Clue}{grid:List Int}{r:bB}{set other:Nat}{ls:List (List Int)}{y:Nat×List Int×List Int}(hK:eH k)(hQ:jO k p)(hr:r∈k.decl.rules)(H:jW k p grid r set other)(hkk:(1<=r.kind/\r.kind<=5)\/r.kind=11)(hls:k.lists[(iR r).toNat]? =some ls)(hy:y∈pE p r ls){given:List Int}(hg:0<=r.aB->given=y.2.2):
 J5 k grid r set y.2.1 given (if r.aB<0 then[r.n]else y.2.2):=by
 have hf:=hK.rf hr;have h0:r.aB<0->r.family=iR r:=λh=>by
  have:=hf.JU;unfold iR;rw[if_neg (by omega),if_neg (by omega),if_neg (by omega)]
 have h1:0<=r.aB->∃c,k.decl.aM[r.aB.toNat]? =some c/\c.family=iR r:=λh=>by
  obtain⟨_,c,c1,c2,_⟩:=hf.cl h;exact⟨c,c1,c2⟩
 have hL:=λP=>Us (P:=P) hQ hls h0 h1;have hv:=hf.vals hQ hy;refine⟨H.mG,(hL λc _=>oq grid c).1 (λx hx=>H.cells x hx) y hy,H.vals,by have:=hK.typ.lim.s1;omega,H.st,hkk,hf.op,λhk=>?_,λhk=>?_,λhk=>?_⟩
 ·by_cases hc:r.aB<0
  ·rw[if_pos hc];exact .inl ⟨hc,rfl⟩
  ·have h2:=(hL λ_ v=>0<v.length).1 (λx hx=>H.Dn (by omega) x hx) y hy;rw[if_neg hc]at h2⊢;exact .inr ⟨by omega,hg (by omega),h2⟩
 ·have hc:=hf.JU (.inl hk);rw[if_neg (by omega)];refine⟨hg hc,?_⟩;rw[hg hc];rcases hv with a|⟨_,_,_,_,a|a|a⟩
  ·omega
  ·omega
  ·omega
  ·omega
 ·have hc:=hf.JU (.inr hk);rw[if_neg (by omega)];refine⟨hg hc,?_,(hL λc _=>0<c.length).1 (λx hx=>H.one hk x hx) y hy⟩;rw[hg hc];rcases hv with a|⟨_,_,_,_,a|a|a⟩
  ·omega
  ·omega
  ·omega
  ·omega
theorem aiT{k:bR}{p:List Clue}{grid:List Int}{r:bB}{set other:Nat}{vh vs vr vc vu gh gc vn vl vp v1 v2 vg:Value}(hK:eH k)(hQ:jO k p)(hr:r∈k.decl.rules)(H:jW k p grid r set other)(hkk:(1<=r.kind/\r.kind<=5)\/r.kind=11):
 bV Tryz.prog 96 [.agg ⟨jq k vh vs vr vc vu gh gc vn vl⟩,.agg ⟨[vp]⟩,.agg ⟨gY r v1 v2⟩,vg] (ah jh vp p::ah aa vg grid::iB k vh vs vr vc vu gh gc vn vl []) (.bool ((eY k p r).all (ig k grid r set))):=by
 have hf:=hK.rf hr;have WL:=H.ps.len;obtain⟨ls,hls,_⟩:=hf.list hK;have hll:=(bK.1 hls).1;have akj:ls.length<=2048:=by
  have:∀l∈k.lists,l.length<=2048:=by rw[hK.lists];exact adT hK.bW (λr hr=>(hK.typ.Bd r hr).1.2)
  exact this ls (aP hls)
 have h0:r.aB<0->r.family=iR r:=λh=>by
  have:=hf.JU;unfold iR;rw[if_neg (by omega),if_neg (by omega),if_neg (by omega)]
 have h1:0<=r.aB->∃c,k.decl.aM[r.aB.toNat]? =some c/\c.family=iR r:=λh=>by
  obtain⟨_,c,c1,c2,_⟩:=hf.cl h;exact⟨c,c1,c2⟩
 have hL:=Us (P:=λc v=>ig k grid r set (c,v)=true) hQ hls h0 h1;have o8:=hf.f0;refine aC _ (aF 96) λB w0=>?_;dsimp only[iB];refine go ?_;intro b4 b5 b6;refine go ?_;refine ay rfl (λJ8=>?_) (λJ8=>?_)
 ·have e:iR r=r.family:=by clear h0 h1;unfold iR;rw[if_neg (by omega),if_neg (by omega),if_neg (by omega)]
  obtain⟨fi,hfi⟩:=dZ o8.1;have yj:k.lists[fi]? =some ls:=by rw[e,hfi]at hls;exact hls
  have hfl:fi<k.lists.length:=(bK.1 yj).1;refine go ?_;rw[hfi];refine go ?_;refine aR (λj:Nat=>ls.length - j) (λj=>[(10,.int .i64 (j:Int))]) (λ_=>[]) (λ_=>[]) (λj=>j<=ls.length/\∀y∈pE p r (ls.take j),ig k grid r set (y.2.1,if r.aB<0 then[r.n]else y.2.2)=true) 0 ⟨bJ _,by simp[pE]⟩ (body:=?_);rintro j ⟨hj,hall⟩;refine go ?_;refine aU (k:=fi) (ax (ax aa)) (xs:=k.lists) (next:=λ_ _ ls1 (aiV:Value) Pe=>?_);cases yj.symm.trans Pe;refine go ?_;refine ay rfl (λa1=>?_) (λa1=>?_)
  rotate_left
  ·have fK:j=ls.length:=by omega
   subst fK;rw[bC]at hall;refine go ?_;refine ae () (hv:=?_) (hp:=trivial);rw[kg.2 (λx hx=>hL.2 hall x hx)];rfl
  obtain⟨cells,hcl⟩:∃l,ls[j]? =some l:=⟨_,bN (by omega)⟩
  have hsucc:=Uo (p:=p) (r:=r) hcl;refine go ?_;refine aj (WK (p:=p) (c:=r.aB) (a:=(j:Int)) WL) (next:=λwv _=>?_);refine go ?_;refine gG (λg1=>?_) (λg1=>?_)
  ·have hc:r.aB<0:=by omega
   have hln:qc p r (cells,j)=some (j,cells,[]):=if_pos hc;refine go ?_;refine aU (k:=fi) (ax (ax aa)) (xs:=k.lists) (next:=λ_ _ F6 (Pf:Value) Br=>?_);cases yj.symm.trans Br;refine go ?_;refine aU (ax aa) (xs:=ls) (next:=λ_ _ cells' (qU:Value) hcl'=>?_);cases hcl.symm.trans hcl';refine go ?_;have hym:(j,cells,[])∈pE p r ls:=xM.2 ⟨hcl,.inl ⟨hc,rfl⟩⟩;have hS:=J7 (given:=(om p r.aB (j:Int)).getD []) hK hQ hr H hkk hls hym (λh=>by omega);dsimp only at hS;rw[if_pos hc]at hS;refine aj (J6 (vh:=vh) (zA:=vs) (v1:=v1) (v2:=v2) (vg:=vg) (qU:=qU) (Bq:=wv) hS) (next:=λ_ _=>?_);refine go ?_;refine iZ (b:=!(ig k grid r set (cells,[r.n]))) rfl (λh6=>?_) (λh6=>?_)
   ·have h6:ig k grid r set (cells,[r.n])=false:=by simpa using h6
    refine go ?_;refine ae () (hv:=?_) (hp:=trivial);have:(eY k p r).all (ig k grid r set)=false:=by
     cases hq:(eY k p r).all (ig k grid r set)with
     |false=>rfl
     |true=>
      have h7:=hL.1 (λx hx=>kg.1 hq x hx) _ hym;dsimp only at h7;rw[if_pos hc,h6]at h7;cases h7
    rw[this];rfl
   ·have h6:ig k grid r set (cells,[r.n])=true:=by simpa using h6
    refine go ?_;refine aD (j+1) (by show ls.length - (j+1)<ls.length - j;omega) ⟨by omega,λy hy=>?_⟩;rw[hsucc,hln,PL]at hy;rcases dB.1 hy with hy|hy
    ·exact hall y hy
    ·rw[bM.1 hy];dsimp only;rw[if_pos hc];exact h6
  refine go ?_;have hcn:¬r.aB<0:=by omega
  cases rE:om p r.aB (j:Int)with
  |none=>
   have hln:qc p r (cells,j)=none:=by unfold qc;rw[if_neg hcn];show Option.map _ (om p r.aB (j:Int))=none;rw[rE];rfl
   refine go ?_;refine aD (j+1) (by show ls.length - (j+1)<ls.length - j;omega) ⟨by omega,λy hy=>?_⟩;rw[hsucc,hln]at hy;rcases dB.1 hy with hy|hy
   ·exact hall y hy
   ·cases hy
  |some vs2=>
   have hln:qc p r (cells,j)=some (j,cells,vs2):=by unfold qc;rw[if_neg hcn];show Option.map _ (om p r.aB (j:Int))=_;rw[rE];rfl
   refine go ?_;refine aU (k:=fi) (ax (ax aa)) (xs:=k.lists) (next:=λ_ _ F6 (Pf:Value) Br=>?_);cases yj.symm.trans Br;refine go ?_;refine aU (ax aa) (xs:=ls) (next:=λ_ _ cells' (qU:Value) hcl'=>?_);cases hcl.symm.trans hcl';refine go ?_;have hym:(j,cells,vs2)∈pE p r ls:=xM.2 ⟨hcl,.inr ⟨by omega,rE⟩⟩;have hS:=J7 (given:=(some vs2).getD []) hK hQ hr H hkk hls hym (λ_=>rfl);dsimp only at hS;rw[if_neg hcn]at hS;refine aj (J6 (vh:=vh) (zA:=vs) (v1:=v1) (v2:=v2) (vg:=vg) (qU:=qU) (Bq:=wv) hS) (next:=λ_ _=>?_);refine go ?_;refine iZ (b:=!(ig k grid r set (cells,vs2))) rfl (λh6=>?_) (λh6=>?_)
   ·have h6:ig k grid r set (cells,vs2)=false:=by simpa using h6
    refine go ?_;refine ae () (hv:=?_) (hp:=trivial);have:(eY k p r).all (ig k grid r set)=false:=by
     cases hq:(eY k p r).all (ig k grid r set)with
     |false=>rfl
     |true=>
      have h7:=hL.1 (λx hx=>kg.1 hq x hx) _ hym;dsimp only at h7;rw[if_neg hcn,h6]at h7;cases h7
    rw[this];rfl
   ·have h6:ig k grid r set (cells,vs2)=true:=by simpa using h6
    refine go ?_;refine aD (j+1) (by show ls.length - (j+1)<ls.length - j;omega) ⟨by omega,λy hy=>?_⟩;rw[hsucc,hln,PL]at hy;rcases dB.1 hy with hy|hy
    ·exact hall y hy
    ·rw[bM.1 hy];dsimp only;rw[if_neg hcn];exact h6
 ·have J8:r.kind=11:=gM.1 J8;have e:iR r=0:=by unfold iR;rw[if_neg (by omega),if_neg (by omega),if_pos J8]
  have yj:k.lists[0]? =some ls:=by rw[e]at hls;exact hls
  have hfl:0<k.lists.length:=(bK.1 yj).1;refine go ?_;refine aR (λj:Nat=>ls.length - j) (λj=>[(10,.int .i64 (j:Int))]) (λ_=>[]) (λ_=>[]) (λj=>j<=ls.length/\∀y∈pE p r (ls.take j),ig k grid r set (y.2.1,if r.aB<0 then[r.n]else y.2.2)=true) 0 ⟨bJ _,by simp[pE]⟩ (body:=?_);rintro j ⟨hj,hall⟩;refine go ?_;refine aU (k:=0) (ax (ax aa)) (xs:=k.lists) (next:=λ_ _ ls1 (aiV:Value) Pe=>?_);cases yj.symm.trans Pe;refine go ?_;refine ay rfl (λa1=>?_) (λa1=>?_)
  rotate_left
  ·have fK:j=ls.length:=by omega
   subst fK;rw[bC]at hall;refine go ?_;refine ae () (hv:=?_) (hp:=trivial);rw[kg.2 (λx hx=>hL.2 hall x hx)];rfl
  obtain⟨cells,hcl⟩:∃l,ls[j]? =some l:=⟨_,bN (by omega)⟩
  have hsucc:=Uo (p:=p) (r:=r) hcl;refine go ?_;refine aj (WK (p:=p) (c:=r.aB) (a:=(j:Int)) WL) (next:=λwv _=>?_);refine go ?_;refine gG (λg1=>?_) (λg1=>?_)
  ·have hc:r.aB<0:=by omega
   have hln:qc p r (cells,j)=some (j,cells,[]):=if_pos hc;refine go ?_;refine aU (k:=0) (ax (ax aa)) (xs:=k.lists) (next:=λ_ _ F6 (Pf:Value) Br=>?_);cases yj.symm.trans Br;refine go ?_;refine aU (ax aa) (xs:=ls) (next:=λ_ _ cells' (qU:Value) hcl'=>?_);cases hcl.symm.trans hcl';refine go ?_;have hym:(j,cells,[])∈pE p r ls:=xM.2 ⟨hcl,.inl ⟨hc,rfl⟩⟩;have hS:=J7 (given:=(om p r.aB (j:Int)).getD []) hK hQ hr H hkk hls hym (λh=>by omega);dsimp only at hS;rw[if_pos hc]at hS;refine aj (J6 (vh:=vh) (zA:=vs) (v1:=v1) (v2:=v2) (vg:=vg) (qU:=qU) (Bq:=wv) hS) (next:=λ_ _=>?_);refine go ?_;refine iZ (b:=!(ig k grid r set (cells,[r.n]))) rfl (λh6=>?_) (λh6=>?_)
   ·have h6:ig k grid r set (cells,[r.n])=false:=by simpa using h6
    refine go ?_;refine ae () (hv:=?_) (hp:=trivial);have:(eY k p r).all (ig k grid r set)=false:=by
     cases hq:(eY k p r).all (ig k grid r set)with
     |false=>rfl
     |true=>
      have h7:=hL.1 (λx hx=>kg.1 hq x hx) _ hym;dsimp only at h7;rw[if_pos hc,h6]at h7;cases h7
    rw[this];rfl
   ·have h6:ig k grid r set (cells,[r.n])=true:=by simpa using h6
    refine go ?_;refine aD (j+1) (by show ls.length - (j+1)<ls.length - j;omega) ⟨by omega,λy hy=>?_⟩;rw[hsucc,hln,PL]at hy;rcases dB.1 hy with hy|hy
    ·exact hall y hy
    ·rw[bM.1 hy];dsimp only;rw[if_pos hc];exact h6
  refine go ?_;have hcn:¬r.aB<0:=by omega
  cases rE:om p r.aB (j:Int)with
  |none=>
   have hln:qc p r (cells,j)=none:=by unfold qc;rw[if_neg hcn];show Option.map _ (om p r.aB (j:Int))=none;rw[rE];rfl
   refine go ?_;refine aD (j+1) (by show ls.length - (j+1)<ls.length - j;omega) ⟨by omega,λy hy=>?_⟩;rw[hsucc,hln]at hy;rcases dB.1 hy with hy|hy
   ·exact hall y hy
   ·cases hy
  |some vs2=>
   have hln:qc p r (cells,j)=some (j,cells,vs2):=by unfold qc;rw[if_neg hcn];show Option.map _ (om p r.aB (j:Int))=_;rw[rE];rfl
   refine go ?_;refine aU (k:=0) (ax (ax aa)) (xs:=k.lists) (next:=λ_ _ F6 (Pf:Value) Br=>?_);cases yj.symm.trans Br;refine go ?_;refine aU (ax aa) (xs:=ls) (next:=λ_ _ cells' (qU:Value) hcl'=>?_);cases hcl.symm.trans hcl';refine go ?_;have hym:(j,cells,vs2)∈pE p r ls:=xM.2 ⟨hcl,.inr ⟨by omega,rE⟩⟩;have hS:=J7 (given:=(some vs2).getD []) hK hQ hr H hkk hls hym (λ_=>rfl);dsimp only at hS;rw[if_neg hcn]at hS;refine aj (J6 (vh:=vh) (zA:=vs) (v1:=v1) (v2:=v2) (vg:=vg) (qU:=qU) (Bq:=wv) hS) (next:=λ_ _=>?_);refine go ?_;refine iZ (b:=!(ig k grid r set (cells,vs2))) rfl (λh6=>?_) (λh6=>?_)
   ·have h6:ig k grid r set (cells,vs2)=false:=by simpa using h6
    refine go ?_;refine ae () (hv:=?_) (hp:=trivial);have:(eY k p r).all (ig k grid r set)=false:=by
     cases hq:(eY k p r).all (ig k grid r set)with
     |false=>rfl
     |true=>
      have h7:=hL.1 (λx hx=>kg.1 hq x hx) _ hym;dsimp only at h7;rw[if_neg hcn,h6]at h7;cases h7
    rw[this];rfl
   ·have h6:ig k grid r set (cells,vs2)=true:=by simpa using h6
    refine go ?_;refine aD (j+1) (by show ls.length - (j+1)<ls.length - j;omega) ⟨by omega,λy hy=>?_⟩;rw[hsucc,hln,PL]at hy;rcases dB.1 hy with hy|hy
    ·exact hall y hy
    ·rw[bM.1 hy];dsimp only;rw[if_neg hcn];exact h6
theorem aiW{k:bR}{p:List Clue}{grid:List Int}{r:bB}{set other:Nat}(hkk:(1<=r.kind/\r.kind<=5)\/r.kind=11):kL k p grid r set other=(eY k p r).all (ig k grid r set):=by
 unfold kL;have:ig k grid r set=if r.kind=1 then cA grid else if r.kind=2 then cB grid set r.op else if r.kind=3 then cC (gD k) grid r.op else if r.kind=4 then cD (gD k) grid else if r.kind=5 then cE grid set else cK grid:=by
  funext x
  unfold ig;repeat' split
  all_goals rfl
 rw[this];repeat' split
 all_goals first|rfl|(exfalso;omega)
theorem Pg{k:bR}{grid:List Int}{vh vs vr vc vu gh gc vn vl vg:Value}(hS:lJ k)(hl:grid.length<9223372036854775808):
 aV Tryz.prog (.func 18) [.agg ⟨jq k vh vs vr vc vu gh gc vn vl⟩,vg] [] [] (ah aa vg grid::iB k vh vs vr vc vu gh gc vn vl []) (λe:Int=>.int .i64 e) (λ_=>[]) (λ_=>[])
  (λe=>(¬eH k->e=180)/\(eH k->¬mF k grid->e=200)/\(eH k->mF k grid->e=0)):=by
 refine aC _ (aF 18) λB w0=>?_;refine go ?_;intro b2;refine go ?_;refine aj (WB (k:=k) hS) (next:=λb hb=>?_);cases b with
 |false=>
  have hno:¬eH k:=λh=>by have:=hb.2 h;cases this
  dsimp only[cond];refine go ?_;exact ae 180 (hv:=rfl) (hp:=⟨λ_=>rfl,λh=>absurd h hno,λh=>absurd h hno⟩)
 |true=>
 have hK:=hb.1 rfl;clear hb;dsimp only[cond];dsimp only[iB];refine go ?_;refine aj (aeT (cells:=(k.grid.cells.length:Int)) (symbols:=(k.decl.symbols.length:Int)) (grid:=grid) hl) (next:=λb hb=>?_);cases b with
 |false=>
  refine go ?_;exact ae 200 (hv:=rfl) (hp:=⟨λh=>absurd hK h,λ_ _=>rfl,λ_ h=>by have:=hb.2 h;cases this⟩)
 |true=>
  refine go ?_;exact ae 0 (hv:=rfl) (hp:=⟨λh=>absurd hK h,λ_ h=>absurd (hb.1 rfl) h,λ_ _=>rfl⟩)
def oQ(k:bR)(r:bB)(set other:Nat):Int->Int->Bool:=if r.kind=6 then nF else if r.kind=7 then nG (gD k) r.n else nH set other
theorem aiX{k:bR}{p:List Clue}{grid:List Int}{r:bB}{set other:Nat}(hkk:r.kind=6\/r.kind=7\/r.kind=8):kL k p grid r set other=mW k.aN grid (oQ k r set other):=by
 unfold kL oQ;rcases hkk with e|e|e<;>rw[e]<;>rfl
set_option maxHeartbeats 8000000 in
theorem aiY{k:bR}{p:List Clue}{grid:List Int}{r:bB}{set other:Nat}{vh vs vr vc vu gh gc vn vl v1 v2 vg:Value}(H:jW k p grid r set other)(hsy:k.decl.symbols.length<=4096)(hkk:r.kind=6\/r.kind=7\/r.kind=8):
 bV Tryz.prog 92 [.agg ⟨jq k vh vs vr vc vu gh gc vn vl⟩,.agg ⟨gY r v1 v2⟩,vg] (ah aa vg grid::iB k vh vs vr vc vu gh gc vn vl []) (.bool (mW k.aN grid (oQ k r set other))):=by
 obtain⟨hnl,J9⟩:=H.s.aN;have hG:=H.bW;have hgl:=H.xQ;have hgr:=H.mG;have akk:=hgr.len;obtain⟨hst,hset⟩:=H.st;obtain⟨hot,hoth⟩:=H.ot;have hv:=H.vals;refine aC _ (aF 92) λB w0=>?_;dsimp only[iB];refine aT (E:=ax aa) (v:=vn) (xs:=k.aN) (by simp) λan cn en=>?_;subst en;refine aT (E:=aa) (v:=vg) (xs:=grid) (by simp) λag cg eg=>?_;subst eg;refine go ?_;intro b3 b4;refine go ?_;refine aj (O9 (k:=k) (vn:=.slice an k.aN.length cn) (vl:=vl) hsy) (next:=λwv _=>?_);refine go ?_;refine aR (λj:Nat=>k.aN.length - j) (λj=>[(8,.int .i64 (j:Int))]) (λ_=>[]) (λ_=>[]) (λj=>j<=k.aN.length/\mW (k.aN.take j) grid (oQ k r set other)=true) 0 ⟨bJ _,rfl⟩ (body:=?_);rintro j ⟨hj,hall⟩;refine go ?_;refine ay rfl (λh1=>?_) (λh1=>?_)
 ·obtain⟨l,hl⟩:∃l,k.aN[j]? =some l:=⟨_,bN (by omega)⟩
  have hll:=J9 l (aP hl);refine go ?_;refine aR (λi:Nat=>l.length - i) (λi=>[(9,.int .i64 (i:Int))]) (λ_=>[]) (λ_=>[]) (λi=>i<=l.length/\((l.take i).all λb=>oQ k r set other (ol grid (j:Int)) (ol grid b))=true) 0 ⟨bJ _,rfl⟩ (body:=?_);rintro i ⟨hi,nu⟩;refine go ?_;refine aU (ax aa) (xs:=k.aN) (next:=λ_ _ l1 (vl1:Value) hl1=>?_);cases hl.symm.trans hl1;refine go ?_;refine ay rfl (λh2=>?_) (λh2=>?_)
  ·refine go ?_;refine aU (ax aa) (xs:=k.aN) (next:=λ_ _ l2 (OP:Value) hl2=>?_);cases hl.symm.trans hl2;refine go ?_;intro _ _ b hb;obtain⟨hb0,hb1,_⟩:=hG.ok j l hl i b hb;obtain⟨bn,rfl⟩:=dZ hb0;obtain⟨x,hx⟩:∃x,grid[j]? =some x:=⟨_,bN (by omega)⟩
   obtain⟨y,hy⟩:∃y,grid[bn]? =some y:=⟨_,bN (by omega)⟩
   have hxg:=vT hx;have hyg:=vT hy;have hxs:=hgr.dP x (aP hx);have hys:=hgr.dP y (aP hy);have hxv:=hv.dP x (aP hx);have hyv:=hv.dP y (aP hy);obtain⟨xn,rfl⟩:=dZ hxs.1;obtain⟨yn,rfl⟩:=dZ hys.1;have akm:=hkk;rcases hkk with e|e|e
   ·have hc:oQ k r set other=nF:=if_pos e;refine go ?_;refine gG (λz1=>?_) (λz1=>?_)
    ·omega
    refine go ?_;intro _ _ x1 hx1;cases hx.symm.trans hx1;refine go ?_;intro _ _ y1 hy1;cases hy.symm.trans hy1;refine go ?_;refine ay rfl (λz2=>?_) (λz2=>?_)
    ·have o8:mW k.aN grid (oQ k r set other)=false:=Jo hl hb (by rw[hxg,hyg];exact by rw[hc];unfold nF;rw[z2];simp);refine go ?_;refine ae () (hv:=?_) (hp:=trivial);rw[o8];rfl
    refine go ?_;refine gG (λz3=>?_) (λz3=>?_)
    rotate_left
    ·omega
    refine go ?_;refine gG (λz4=>?_) (λz4=>?_)
    rotate_left
    ·omega
    refine go ?_;refine aD (i+1) (by show l.length - (i+1)<l.length - i;omega) ⟨by omega,?_⟩;rw[bS hb,Dz,nu,wo,Gl,hxg,hyg,show oQ k r set other (xn:Int) (yn:Int)=true by rw[hc];unfold nF;exact dQ z2];rfl
   ·have hc:oQ k r set other=nG (gD k) r.n:=(if_neg (by omega)).trans (if_pos e);obtain⟨v,lm⟩:∃v,(gD k)[xn]? =some v:=⟨_,bN (by omega)⟩
    obtain⟨u,C9⟩:∃u,(gD k)[yn]? =some u:=⟨_,bN (by omega)⟩
    have hv9:=vT lm;have hu9:=vT C9;have hvb:=hv.val v (aP lm);have hub:=hv.val u (aP C9);refine go ?_;refine gG (λz1=>?_) (λz1=>?_)
    rotate_left
    ·omega
    refine go ?_;refine gG (λz2=>?_) (λz2=>?_)
    ·omega
    refine go ?_;intro _ _ x1 hx1;cases hx.symm.trans hx1;refine go ?_;intro _ _ v1 hv1;cases lm.symm.trans hv1;refine go ?_;intro _ _ y1 hy1;cases hy.symm.trans hy1;refine go ?_;intro _ _ u1 hu1;cases C9.symm.trans hu1;refine go ?_;refine aj (aeY (a:=v) (b:=u) (n:=r.n) ⟨by omega,by omega⟩ ⟨by omega,by omega⟩) (next:=λ_ _=>?_);refine go ?_;have hcv:oQ k r set other (xn:Int) (yn:Int)=decide (r.n<=max (v - u) (u - v)):=by rw[hc];unfold nG;rw[hv9,hu9]
    refine iZ (b:=!(decide (r.n<=max (v - u) (u - v)))) rfl (λz3=>?_) (λz3=>?_)
    ·have o8:mW k.aN grid (oQ k r set other)=false:=Jo hl hb (by rw[hxg,hyg];exact by rw[hcv];simpa using z3);refine go ?_;refine ae () (hv:=?_) (hp:=trivial);rw[o8];rfl
    refine go ?_;refine gG (λz4=>?_) (λz4=>?_)
    rotate_left
    ·omega
    refine go ?_;refine aD (i+1) (by show l.length - (i+1)<l.length - i;omega) ⟨by omega,?_⟩;rw[bS hb,Dz,nu,wo,Gl,hxg,hyg,show oQ k r set other (xn:Int) (yn:Int)=true by rw[hcv];simpa using z3];rfl
   ·have hc:oQ k r set other=nH set other:=(if_neg (by omega)).trans (if_neg (by omega));have hcv:oQ k r set other (xn:Int) (yn:Int)=(!(set.testBit xn)||!(other.testBit yn)):=by rw[hc];rfl
    refine go ?_;refine gG (λz1=>?_) (λz1=>?_)
    rotate_left
    ·omega
    refine go ?_;refine gG (λz2=>?_) (λz2=>?_)
    rotate_left
    ·omega
    refine go ?_;refine gG (λz3=>?_) (λz3=>?_)
    ·omega
    refine go ?_;intro _ _ x1 hx1;cases hx.symm.trans hx1;refine go ?_;rw[hst];refine aj (FD (set:=set) (dP:=xn) hset (by omega)) (next:=λ_ _=>?_);refine go ?_;cases hb1:set.testBit xn with
    |false=>
     refine go ?_;refine aD (i+1) (by show l.length - (i+1)<l.length - i;omega) ⟨by omega,?_⟩;rw[bS hb,Dz,nu,wo,Gl,hxg,hyg,show oQ k r set other (xn:Int) (yn:Int)=true by rw[hcv,hb1];rfl];rfl
    |true=>
     refine go ?_;intro _ _ y1 hy1;cases hy.symm.trans hy1;refine go ?_;rw[hot];refine aj (FD (set:=other) (dP:=yn) hoth (by omega)) (next:=λ_ _=>?_);refine go ?_;cases hb2:other.testBit yn with
     |true=>
      refine go ?_;have o8:mW k.aN grid (oQ k r set other)=false:=Jo hl hb (by rw[hxg,hyg];exact by rw[hcv,hb1,hb2];rfl);refine go ?_;refine ae () (hv:=?_) (hp:=trivial);rw[o8];rfl
     |false=>
      refine go ?_;refine aD (i+1) (by show l.length - (i+1)<l.length - i;omega) ⟨by omega,?_⟩;rw[bS hb,Dz,nu,wo,Gl,hxg,hyg,show oQ k r set other (xn:Int) (yn:Int)=true by rw[hcv,hb1,hb2];rfl];rfl
  have hie:i=l.length:=by omega
  subst hie;rw[bC]at nu;refine go ?_;refine aD (j+1) (by show k.aN.length - (j+1)<k.aN.length - j;omega) ⟨by omega,?_⟩;rw[Uk hl,hall,nu];rfl
 have fK:j=k.aN.length:=by omega
 subst fK;rw[bC]at hall;refine go ?_;refine ae () (hv:=?_) (hp:=trivial);rw[hall];rfl
theorem WM{grid:List Int}(h:oN grid):oq grid (upTo' grid.length):=by
 refine⟨by rw[oh];exact h.len,λc hc=>?_⟩;unfold upTo' at hc;obtain⟨i,hi,rfl⟩:=eT.1 hc;have:=uf.1 hi;exact⟨by omega,by omega⟩
theorem WN{k:bR}{p:List Clue}{grid:List Int}{r:bB}{set other:Nat}{vh vs vr vc vu gh gc vn vl vp v1 v2 vg:Value}(hK:eH k)(hQ:jO k p)(hr:r∈k.decl.rules)(H:jW k p grid r set other):
 bV Tryz.prog 38 [.agg ⟨jq k vh vs vr vc vu gh gc vn vl⟩,.agg ⟨[vp]⟩,.agg ⟨gY r v1 v2⟩,vg] (ah jh vp p::ah aa vg grid::iB k vh vs vr vc vu gh gc vn vl []) (.bool (kL k p grid r set other)):=by
 have hkd:=H.kind;have hg:=H.mG;have hgl:=hg.len;have hnl:=H.xQ;obtain⟨_,J9⟩:=H.s.aN;obtain⟨hst,hset⟩:=H.st;have hsy:k.decl.symbols.length<=4096:=by have:=hK.typ.lim.s1;omega
 refine aC _ (aF 38) λB w0=>?_;dsimp only[iB];refine aT (E:=aa) (v:=vg) (xs:=grid) (by simp) λag cg eg=>?_;subst eg;refine go ?_;intro b4 b5 b6;refine go ?_;by_cases k1:r.kind=6\/r.kind=7\/r.kind=8
 ·rw[aiX k1];iterate 12 (all_goals (first|(exfalso;omega)|(refine ay rfl (λ_=>?_) (λ_=>?_))|(refine go ?_)))
  all_goals (
   refine aj (aiY (v1:=v1) (v2:=v2) (vg:=.slice ag grid.length cg) H hsy k1) (next:=λ_ _=>?_);refine go ?_;exact ae () (hv:=rfl) (hp:=trivial))
 by_cases k9:r.kind=9
 ·have hh:kL k p grid r set other=qd k.aN (kH grid set (upTo' grid.length)) false:=by unfold kL;rw[k9];rfl
  rw[hh];have hml:=JC grid set (upTo' grid.length);iterate 12 (all_goals (first|(exfalso;omega)|(refine ay rfl (λ_=>?_) (λ_=>?_))|(refine go ?_)))
  refine aj (WJ (n:=grid.length) hgl) (next:=λwa _=>?_);refine go ?_;rw[hst];refine aj (U6 (set:=set) (cells:=upTo' grid.length) hg (WM hg) hset) (next:=λbm _=>?_);refine aW (EP (b:=bm) (f:=0) (c:=grid.length) (xs:=kH grid set (upTo' grid.length))) (h:=?_);rw[hml];refine go ?_;refine aj (aeZ (aN:=k.aN) (ak:=kH grid set (upTo' grid.length)) H.bW J9 (by omega)) (next:=λ_ _=>?_);refine go ?_;exact ae () (hv:=rfl) (hp:=trivial)
 by_cases k10:r.kind=10
 ·have hh:kL k p grid r set other=qd k.aN (kH grid set (upTo' grid.length)) true:=by unfold kL;rw[k10];rfl
  rw[hh];have hml:=JC grid set (upTo' grid.length);iterate 14 (all_goals (first|(exfalso;omega)|(refine ay rfl (λ_=>?_) (λ_=>?_))|(refine go ?_)))
  refine aj (WJ (n:=grid.length) hgl) (next:=λwa _=>?_);refine go ?_;rw[hst];refine aj (U6 (set:=set) (cells:=upTo' grid.length) hg (WM hg) hset) (next:=λbm _=>?_);refine aW (EP (b:=bm) (f:=0) (c:=grid.length) (xs:=kH grid set (upTo' grid.length))) (h:=?_);rw[hml];refine go ?_;refine aj (ae0 (aN:=k.aN) (ak:=kH grid set (upTo' grid.length)) H.bW J9 (by omega)) (next:=λ_ _=>?_);refine go ?_;exact ae () (hv:=rfl) (hp:=trivial)
 have hkk:(1<=r.kind/\r.kind<=5)\/r.kind=11:=by omega
 rw[aiW hkk];iterate 14 (all_goals (first|(exfalso;omega)|(refine ay rfl (λ_=>?_) (λ_=>?_))|(refine go ?_)))
 refine aj (aiT (v1:=v1) (v2:=v2) (vg:=.slice ag grid.length cg) hK hQ hr H hkk) (next:=λ_ _=>?_);refine go ?_;exact ae () (hv:=rfl) (hp:=trivial)
theorem ai1{k:bR}{p:List Clue}{grid:List Int}{i:Int}{vh vs vr vc vu gh gc vn vl vp vg:Value}(hS:lJ k)(hP:qO p)(hl:grid.length<9223372036854775808)(hA:F7 k p grid):
 aV Tryz.prog (.func 14) [.agg ⟨jq k vh vs vr vc vu gh gc vn vl⟩,.agg ⟨[vp]⟩,vg,.int .i64 i] [] [] (ah jh vp p::ah aa vg grid::iB k vh vs vr vc vu gh gc vn vl []) U5 (λ_=>[]) (λ_=>[]) (Bn k p grid i):=by
 refine aC _ (aF 14) λB w0=>?_;refine go ?_;intro b4 b5;refine go ?_;refine aj (Pg (k:=k) (grid:=grid) hS hl) (next:=λe he=>?_);refine go ?_;refine ay rfl (λh1=>?_) (λh1=>?_)
 ·refine go ?_;refine ae (false,e) (hv:=rfl) (hp:=⟨λh=>by rw[he.1 h],λh h2=>by rw[he.2.1 h h2],λh h2=>absurd (he.2.2 h h2) h1,λh h2=>absurd (he.2.2 h h2) h1,λh h2=>absurd (he.2.2 h h2) h1⟩)
 have hz:e=0:=gM.1 h1;subst hz;have hK:eH k:=Classical.byContradiction λh=>by have:=he.1 h;omega
 have hF:mF k grid:=Classical.byContradiction λh=>by have:=he.2.1 hK h;omega
 refine go ?_;refine aj (WG (k:=k) (p:=p) hS hP) (next:=λe2 he2=>?_);refine go ?_;refine ay rfl (λh2=>?_) (λh2=>?_)
 ·refine go ?_;refine ae (false,e2) (hv:=rfl) (hp:=⟨λh=>absurd hK h,λ_ h=>absurd hF h,λ_ _ h=>by rw[he2.2.1 hK h],λ_ _ h=>absurd (he2.2.2 hK h) h2,λ_ _ h=>absurd (he2.2.2 hK h) h2⟩)
 have hz:e2=0:=gM.1 h2;subst hz;have hQ:jO k p:=Classical.byContradiction λh=>by have:=he2.2.1 hK h;omega
 have xy:=hA hK hF hQ;have hno:(i<0\/(k.decl.rules.length:Int)<=i)->Bn k p grid i (false,1):=λh=>⟨λh=>absurd hK h,λ_ h=>absurd hF h,λ_ _ h=>absurd hQ h,λ_ _ _ _=>rfl,λ_ _ _ n r e hr=>by
  have:=(bK.1 hr).1;omega⟩
 dsimp only[iB];refine go ?_;refine gG (λh3=>?_) (λh3=>?_)
 rotate_left
 ·refine go ?_;exact ae (false,1) (hv:=rfl) (hp:=hno (.inl h3))
 refine go ?_;refine ay rfl (λh4=>?_) (λh4=>?_)
 ·refine go ?_;exact ae (false,1) (hv:=rfl) (hp:=hno (.inr h4))
 obtain⟨i,rfl⟩:=dZ (show 0<=i by omega);refine go ?_;refine aU aZ (xs:=k.decl.rules) (next:=λ_ _ r (w:Value×Value) hr=>?_);have hrm:=aP hr;refine go ?_;refine aj (WN (k:=k) (p:=p) (grid:=grid) (r:=r) (v1:=w.1) (v2:=w.2) (vg:=vg) hK hQ hrm (xy r hrm)) (next:=λ_ _=>?_);refine go ?_;refine ae (kL k p grid r r.set.toNat r.other.toNat,0) (hv:=rfl) (hp:=⟨λh=>absurd hK h,λ_ h=>absurd hF h,λ_ _ h=>absurd hQ h,λ_ _ _ h=>by omega,λ_ _ _ n r' e hr'=>?_⟩);obtain rfl:n=i:=by omega
 cases hr.symm.trans hr';rfl
theorem ai2{k:bR}{p:List Clue}{grid:List Int}{vh vs vr vc vu gh gc vn vl vp vg:Value}(hS:lJ k)(hP:qO p)(hl:grid.length<9223372036854775808)(hA:F7 k p grid):
 aV Tryz.prog (.func 16) [.agg ⟨jq k vh vs vr vc vu gh gc vn vl⟩,.agg ⟨[vp]⟩,vg] [] [] (ah jh vp p::ah aa vg grid::iB k vh vs vr vc vu gh gc vn vl []) tT (λ_=>[])
  (λy=>[kX (y.e=0) (ah aa y.v (jr k p grid k.decl.rules))]) (λy=>Dk k p grid y.e/\(y.e≠0->y.v=.slice none 0 0)):=by
 have rU:=hS.d.s.jP;refine aC _ (aF 16) λB w0=>?_;refine go ?_;intro b3 b4;refine go ?_;refine aj (Pg (k:=k) (grid:=grid) hS hl) (next:=λe he=>?_);refine go ?_;refine ay rfl (λh1=>?_) (λh1=>?_)
 ·refine go ?_;refine kY (c:=e=0) (f:=ah aa (.slice none 0 0) (jr k p grid k.decl.rules)) h1 ?_;exact ae ⟨.slice none 0 0,e⟩ (hv:=rfl) (hp:=⟨⟨he.1,he.2.1,λh h2=>absurd (he.2.2 h h2) h1,λh h2=>absurd (he.2.2 h h2) h1⟩,λ_=>rfl⟩)
 have hz:e=0:=gM.1 h1;subst hz;have hK:eH k:=Classical.byContradiction λh=>by have:=he.1 h;omega
 have hF:mF k grid:=Classical.byContradiction λh=>by have:=he.2.1 hK h;omega
 refine go ?_;refine aj (WG (k:=k) (p:=p) hS hP) (next:=λe2 he2=>?_);refine go ?_;refine ay rfl (λh2=>?_) (λh2=>?_)
 ·refine go ?_;refine kY (c:=e2=0) (f:=ah aa (.slice none 0 0) (jr k p grid k.decl.rules)) h2 ?_;exact ae ⟨.slice none 0 0,e2⟩ (hv:=rfl) (hp:=⟨⟨λh=>absurd hK h,λ_ h=>absurd hF h,λ_ _ h=>he2.2.1 hK h,λ_ _ h=>absurd (he2.2.2 hK h) h2⟩,λ_=>rfl⟩)
 have hz:e2=0:=gM.1 h2;subst hz;have hQ:jO k p:=Classical.byContradiction λh=>by have:=he2.2.1 hK h;omega
 have xy:=hA hK hF hQ;dsimp only[iB];refine aT (E:=aZ) (v:=vu) (xs:=k.decl.rules) (by simp) λau cu eu=>?_;subst eu;refine go ?_;refine fJ aa ?_;refine aR (λy:Nat×Value=>k.decl.rules.length - y.1) (λy=>[(11,.int .i64 (y.1:Int)),(10,y.2)]) (λy=>[ap aa y.2 (jr k p grid (k.decl.rules.take y.1))]) (λ_=>[]) (λy=>y.1<=k.decl.rules.length) (0,.slice none 0 0) (bJ _) (hk:=by repeat (first|exact aJ.nil|(apply aJ.cons;(focus (repeat (first|exact aA.here|apply aA.there)))))) (body:=?_);rintro⟨j,v6⟩ hj;dsimp only at hj⊢;have hbl:=OQ k p grid (k.decl.rules.take j);rw[gL]at hbl;refine go ?_;refine ay rfl (λh3=>?_) (λh3=>?_)
 ·refine go ?_;refine aU aZ (xs:=k.decl.rules) (next:=λ_ _ r (w:Value×Value) hr=>?_);have hrm:=aP hr;have hsu:=VY (k:=k) (p:=p) (grid:=grid) hr;refine go ?_;refine aj (WN (k:=k) (p:=p) (grid:=grid) (r:=r) (vu:=.slice au k.decl.rules.length cu) (v1:=w.1) (v2:=w.2) (vg:=vg) hK hQ hrm (xy r hrm)) (next:=λ_ _=>?_);rw[show kL k p grid r r.set.toNat r.other.toNat=xY k p grid r from rfl];generalize xY k p grid r=hr2 at hsu⊢;cases hr2 with
  |true=>
   have hu2:jr k p grid (k.decl.rules.take (j+1))=jr k p grid (k.decl.rules.take j):=by rw[hsu];simp
   rw[<- hu2];refine go ?_;exact aD (j+1,v6) (by show k.decl.rules.length - (j+1)<k.decl.rules.length - j;omega) (by show j+1<=_;omega)
  |false=>
   have hu2:jr k p grid (k.decl.rules.take (j+1))=jr k p grid (k.decl.rules.take j)++[(j:Int)]:=by rw[hsu];simp
   refine go ?_;intro b45;refine eG (xs:=jr k p grid (k.decl.rules.take j)) aa (j:Int) () (by omega) (next:=λad=>?_);rw[<- hu2];refine go ?_;exact aD (j+1,.slice ad ((jr k p grid (k.decl.rules.take j)).length+1) ((jr k p grid (k.decl.rules.take j)).length+1)) (by show k.decl.rules.length - (j+1)<k.decl.rules.length - j;omega) (by show j+1<=_;omega)
 have fK:j=k.decl.rules.length:=by omega
 subst fK;rw[bC];refine aW (fG (E:=aa) (v:=v6) (xs:=jr k p grid k.decl.rules)) (h:=?_);refine go ?_;refine kJ (c:=(0:Int)=0) (f:=ah aa v6 (jr k p grid k.decl.rules)) (by simp) ?_;exact ae ⟨v6,0⟩ (hv:=rfl) (hp:=⟨⟨λh=>absurd hK h,λ_ h=>absurd hF h,λ_ _ h=>absurd hQ h,λ_ _ _=>rfl⟩,λh=>absurd rfl h⟩)
