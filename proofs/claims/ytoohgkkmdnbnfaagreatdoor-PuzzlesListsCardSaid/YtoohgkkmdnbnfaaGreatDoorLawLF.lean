/-
  The law PuzzlesLists on the ideal machine.
-/
import Derived.Test.YtoohgkkmdnbnfaaGreatDoorLawPF
set_option linter.all false
set_option maxRecDepth 10000
set_option maxHeartbeats 4000000
namespace Go.Proofs.YtoohgkkmdnbnfaaGreatDoor
open Go.Ideal Kd Canon Gph
theorem ahC{k:bT}(hK:fV k)(h16:k.grid.cells.length<=16):∀l∈k.lists,l.length<=96:=by
 rw[hK.lists];refine acw hK.bV ?_ (λr hr=>(hK.typ.zQ r hr).1.2);rw[<- hK.grid];exact h16
theorem U9{k:bT}{p:List Clue}(hK:fV k)(h16:k.grid.cells.length<=16):(jH k p).length<=4096:=acy (ahC hK h16) hK.typ.lim.u
structure Va(k:bT)(p:List Clue)(c:kM)(i:Nat)(r:aS)(ls:List (List Int))(a:Nat)(vals:List Int):Prop where
 hr:k.decl.rules[i]? =some r
 hls:k.lists[(fD r).toNat]? =some ls
 hat:ls[a]? =some c.cells
 ahD:c.rule=(i:Int)
 hpl:c.at_=(a:Int)
 Vb:(r.aG<0/\vals=[])\/(0<=r.aG/\nH p r.aG (a:Int)=some vals)
 heq:c=iR r i (a,c.cells,vals)
 hrf:RF k r
theorem ahE{k:bT}{p:List Clue}(hK:fV k){c:kM}(hc:c∈jH k p):∃i r ls a vals,Va k p c i r ls a vals:=by
 obtain⟨i,r,hr,hm⟩:=U8.1 hc;have hf:=hK.rf (bI hr);obtain⟨ls,hls,_⟩:=hf.list hK;unfold oH xW at hm;rw[uu hls]at hm;obtain⟨y,hy,rfl⟩:=eG.1 hm;obtain⟨h1,h2⟩:=Ie.1 (rU.1 hy).1;have hcc:(iR r i y).cells=y.2.1:=by unfold iR jG;dsimp only;(repeat' split)<;>rfl
 exact⟨i,r,ls,y.1,y.2.2,hr,hls,by rw[hcc];exact h1,rfl,rfl,h2,by rw[hcc],hf⟩
theorem ahF{k:bT}{p:List Clue}{c:kM}{i:Nat}{r:aS}{ls:List (List Int)}{a:Nat}{vals:List Int}(hK:fV k)(hQ:kQ k p)(h:Va k p c i r ls a vals)(hk:r.kind=2):c.lo<=c.hi:=by
 have hn:0<=uB r vals:=by
  unfold uB;have hx:=h.hrf.x.n;split
  ·exact hx.1
  ·rename_i hb;have hy:(a,c.cells,vals)∈jD p r ls:=Ie.2 ⟨h.hat,h.Vb⟩;rcases h.hrf.vals hQ hy with b|⟨_,_,_,_,b|b|b⟩
   ·exact absurd (h.hrf.UO.2 b.1) hb
   ·omega
   ·have b:=b.2.2;dsimp only at b;rw[List.getD];have h2:vals[0]? =some (vals[0]'(by omega)):=cz _;rw[h2];exact(b.2 _ (bI h2)).1
   ·omega
 rw[h.heq];simp only[iR,mk2 hk];unfold lW;split
 ·exact hn
 ·split
  ·exact Int.le_max_left _ _
  ·exact Int.le_refl _
theorem Vd{P:Prop}(h:P:=by
 (try dsimp only)
 refine aZ aY (xs:=k.decl.rules) (next:=λ_ _ r' (w:Value×Value) hr'=>?_);cases hr.symm.trans hr';refine go ?_;intro b9;refine go ?_;iterate 24 (all_goals (first
  |(exfalso;omega)
  |(refine az rfl (λ_=>?_) (λ_=>?_))
  |(refine go ?_)))
 all_goals (try dsimp only)
 all_goals (first
  |(have hq:=hlq 6 (e1 (by omega));refine aZ (k:=6) (aj (aj aa)) (xs:=k.lists) (next:=λ_ _ ls' (EH:Value) tu=>?_);cases hq.symm.trans tu;refine go ?_;(try dsimp only);(with_reducible refine aL (λa2=>?_) (λa2=>by exfalso;omega));refine go ?_;refine aZ (k:=6) (aj (aj aa)) (xs:=k.lists) (next:=λ_ _ NA (NB:Value) Aa=>?_);cases tu.symm.trans Aa)
  |(have hq:=hlq 7 (e2 (by omega));refine aZ (k:=7) (aj (aj aa)) (xs:=k.lists) (next:=λ_ _ ls' (EH:Value) tu=>?_);cases hq.symm.trans tu;refine go ?_;(try dsimp only);(with_reducible refine aL (λa2=>?_) (λa2=>by exfalso;omega));refine go ?_;refine aZ (k:=7) (aj (aj aa)) (xs:=k.lists) (next:=λ_ _ NA (NB:Value) Aa=>?_);cases tu.symm.trans Aa)
  |(have hq:=hlq 0 (e3 (by omega));refine aZ (k:=0) (aj (aj aa)) (xs:=k.lists) (next:=λ_ _ ls' (EH:Value) tu=>?_);cases hq.symm.trans tu;refine go ?_;(try dsimp only);(with_reducible refine aL (λa2=>?_) (λa2=>by exfalso;omega));refine go ?_;refine aZ (k:=0) (aj (aj aa)) (xs:=k.lists) (next:=λ_ _ NA (NB:Value) Aa=>?_);cases tu.symm.trans Aa)
  |(have hq:=hlq fi ((e4 (by omega)).trans hfi);rw[hfi];refine aZ (k:=fi) (aj (aj aa)) (xs:=k.lists) (next:=λ_ _ ls' (EH:Value) tu=>?_);cases hq.symm.trans tu;refine go ?_;(try dsimp only);(with_reducible refine aL (λa2=>?_) (λa2=>by exfalso;omega));refine go ?_;(try rw[hfi]);refine aZ (k:=fi) (aj (aj aa)) (xs:=k.lists) (next:=λ_ _ NA (NB:Value) Aa=>?_);cases tu.symm.trans Aa))
 all_goals (
  refine go ?_
  (try dsimp only)
  refine aZ (aj aa) (xs:=ls) (next:=λ_ _ cells' (vx:Value) hcx=>?_);cases hat.symm.trans hcx;refine go ?_
  (try dsimp only)
  refine ax (Uj (xs:=cc) (ys:=cc) hsh hsh) (next:=λ_ _=>?_);rw[((AZ xB).zero cc cc).2 rfl];refine go ?_
  (try dsimp only)
  refine ax (ahd (p:=p) (c:=r.aG) (a:=(a:Int)) hP.len) (next:=λn hn=>?_);have hn0:r.aG<0\/0<=n:=hnf n hn;refine go ?_
  (try dsimp only))
 iterate 24 (all_goals (first
  |(exfalso;first|omega|exact hlh.elim (λh=>h (by assumption)) (λh=>absurd h (by omega)))
  |(refine aQ (j+1) (by show(jH k p).length - (j+1)<(jH k p).length - j;omega) (by show j+1<=_;omega))
  |(refine az rfl (λ_=>?_) (λ_=>?_))
  |(with_reducible refine aL (λ_=>?_) (λ_=>?_))
  |(refine go ?_;(try dsimp only))))):P:=h
theorem ahG{k:bT}{p:List Clue}{vh vs vr vc vu gh gc vn vl vp:Value}(hB:BV k)(hP:EG p):
 dG Tryz.prog 9 [.agg ⟨l6 k vh vs vr vc vu gh gc vn vl⟩,.agg ⟨[vp]⟩] (Hf 6::ah j6 vp p::mW k vh vs vr vc vu gh gc vn vl []) (.bool true):=by
 refine aK _ (aP 9) λB w0=>?_;dsimp only[mW];refine go ?_;intro b2 b3;refine go ?_;refine ax aef (next:=λ_ _=>?_);refine go ?_;refine ax (aft (k:=k) (p:=p) (vh:=vh) (vs:=vs) (vr:=vr) (vc:=vc) (vu:=vu) (gh:=gh) (gc:=gc) (vn:=vn) (vl:=vl) (vp:=vp) hB hP.len) (next:=λb hb=>?_);cases b with
 |false=>
  refine go ?_;exact ae () (hv:=rfl) (hp:=trivial)
 |true=>
 obtain⟨hfk,h16,hpl,hpv⟩:=hb rfl;clear hb;have hS:=pO.ofE hB hfk;refine go ?_;refine ax (agP (k:=k) (vh:=vh) (vs:=vs) (vr:=vr) (vc:=vc) (vu:=vu) (gh:=gh) (gc:=gc) (vn:=vn) (vl:=vl) hS) (next:=λb hb=>?_);cases b with
 |false=>
  dsimp only[cond];refine go ?_;exact ae () (hv:=rfl) (hp:=trivial)
 |true=>
 have hK:=hb.1 rfl;clear hb;dsimp only[cond];refine go ?_;refine ax (aha (k:=k) (p:=p) (vh:=vh) (vs:=vs) (vr:=vr) (vc:=vc) (vu:=vu) (gh:=gh) (gc:=gc) (vn:=vn) (vl:=vl) (vp:=vp) hS hP) (next:=λy hy=>?_);obtain⟨ok,e,wv,wc⟩:=y;cases ok with
 |false=>
  have he:e=190:=by
   by_cases hQ:kQ k p
   ·have:=hy.eq.2 (hy.ok hK hQ (U9 hK h16));cases this
   ·exact hy.np hK hQ
  subst he;dsimp only[cond,Nv,Nu,List.nil_append];refine go ?_;intro b5;refine go ?_;exact ae () (hv:=rfl) (hp:=trivial)
 |true=>
 have he:e=0:=hy.eq.1 rfl;subst he;have hQ:kQ k p:=Classical.byContradiction λh=>by have:=hy.np hK h;cases this
 have hL:=U9 (p:=p) hK h16;dsimp only[cond,Nv,Nu,List.cons_append,List.nil_append];refine aV (E:=mX) (v:=wc) (xs:=jH k p) (by simp) λaw cw ew=>?_;subst ew;refine aV (E:=aY) (v:=vu) (xs:=k.decl.rules) (by simp) λau cu eu=>?_;subst eu;refine go ?_;intro b5;refine go ?_;refine bi (λj:Nat=>(jH k p).length - j) (λj=>[(36,.int .i64 (j:Int))]) (λ_=>[]) (λ_=>[]) (λj=>j<=(jH k p).length) 0 (cB _) (body:=?_);intro j hj;refine go ?_;refine az rfl (λq1=>?_) (λq1=>?_)
 rotate_left
 ·refine go ?_;first|with_reducible refine aL (λg1=>?_) (λg1=>?_)|with_reducible refine aO (λg1=>?_) (λg1=>?_)|with_reducible refine aM (λg1=>?_) (λg1=>?_)
  ·exact absurd rfl g1
  refine go ?_;refine ae () (hv:=?_) (hp:=trivial);exact congrArg Value.bool (dZ rfl)
 refine go ?_;refine aZ mX (xs:=jH k p) (next:=λ_ _ c (vy:Value×Value) hc=>?_);obtain⟨i,r,ls,a,vals,hca⟩:=ahE hK (bI hc);have hr:=hca.hr;have hat:=hca.hat
 have Ve:=hca.ahD;have Vf:=hca.hpl;have hlh:r.kind≠2\/c.lo<=c.hi:=(Decidable.em (r.kind=2)).elim (λh=>.inr (ahF hK hQ hca h)) .inl;have hsh:=(ahB hK hQ c (bI hc)).1;have hlq:∀n:Nat,fD r=(n:Int)->k.lists[n]? =some ls:=λn h=>by have:=hca.hls;rw[h]at this;exact this
 have hf0:=hca.hrf.f0;have hll:=hK.gV;have hkd:=hca.hrf.kd;have e1:r.kind=6\/r.kind=7\/r.kind=8->fD r=((6:Nat):Int):=λh=>if_pos h;have e2:r.kind=9\/r.kind=10->fD r=((7:Nat):Int):=λh=>(if_neg (by omega)).trans (if_pos h);have e3:r.kind=11->fD r=((0:Nat):Int):=λh=>(if_neg (by omega)).trans ((if_neg (by omega)).trans (if_pos h));have e4:¬(6<=r.kind/\r.kind<=11)->fD r=r.family:=λh=>(if_neg (by omega)).trans ((if_neg (by omega)).trans (if_neg (by omega)));have hnf:∀n:Int,((n= -1/\nH p r.aG (a:Int)=none)\/∃(j:Nat) (g:Clue),n=(j:Int)/\p[j]? =some g/\g.aG=r.aG/\g.at_=(a:Int)/\nH p r.aG (a:Int)=some g.values)->r.aG<0\/0<=n:=by
  rintro n (⟨_,h2⟩|⟨jj,g,h2,_⟩)
  ·rcases hca.Vb with h3|h3
   ·exact .inl h3.1
   ·rw[h2]at h3;cases h3.2
  ·right;omega
 have ahI:∀c0,0<j->(jH k p)[j - 1]? =some c0->fK ⟨c0.rule,c0.at_,[]⟩ ⟨(i:Int),(a:Int),[]⟩<0:=λc0 h0 h1=>by
  have h2:=yJ.1 (acs k p) (j - 1) j (bN.1 h1).1 (bN.1 hc).1 (by omega);rw[(bN.1 h1).2,(bN.1 hc).2]at h2;unfold L9 at h2;rw[sQ];dsimp only;omega
 clear hca;obtain⟨fi,hfi⟩:=tO hf0.1;have hil:=(bN.1 hr).1;have hal:=(bN.1 hat).1;obtain⟨ck,cc,cs,co,clo,chi,cr,aiH,cat⟩:=c;dsimp only at hat Ve Vf hlh hsh hal;subst Ve Vf;refine go ?_;intro b8;refine go ?_
 (try dsimp only)
 first|with_reducible refine aL (λg2=>?_) (λg2=>?_)|with_reducible refine aO (λg2=>?_) (λg2=>?_)|with_reducible refine aM (λg2=>?_) (λg2=>?_)
 rotate_left
 ·omega
 refine go ?_
 (try dsimp only)
 first|with_reducible refine aL (λg3=>?_) (λg3=>?_)|with_reducible refine aO (λg3=>?_) (λg3=>?_)|with_reducible refine aM (λg3=>?_) (λg3=>?_)
 ·refine go ?_;exact Vd
 refine go ?_;rw[show((j:Nat):Int) - 1=((j - 1:Nat):Int)by omega];refine aZ mX (xs:=jH k p) (next:=λ_ _ c0 (vz:Value×Value) hc0=>?_);have hp1:=ahI c0 (by omega) hc0;refine go ?_;rw[show((j:Nat):Int) - 1=((j - 1:Nat):Int)by omega];refine aZ mX (xs:=jH k p) (next:=λ_ _ c1 (vz2:Value×Value) hc1=>?_);cases hc0.symm.trans hc1;refine go ?_;intro Uf;refine go ?_;intro b76;refine bC Uk (h:=?_);refine bC Uk (h:=?_);refine go ?_
 (try dsimp only)
 refine ax (Uj (xs:=[c0.rule,c0.at_]) (ys:=[(i:Int),(a:Int)]) (by simp) (by simp)) (next:=λ_ _=>?_);rw[show iE fQ [c0.rule,c0.at_] [(i:Int),(a:Int)]=fK ⟨c0.rule,c0.at_,[]⟩ ⟨(i:Int),(a:Int),[]⟩from(Sv ⟨c0.rule,c0.at_,[]⟩ ⟨(i:Int),(a:Int),[]⟩).symm];refine go ?_;refine az rfl (λg4=>?_) (λg4=>?_)
 ·omega
 refine go ?_;exact Vd
