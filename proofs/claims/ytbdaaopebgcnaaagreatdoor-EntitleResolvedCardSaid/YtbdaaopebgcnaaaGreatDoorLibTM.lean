/-
  ref54: valid, Faulty, Results; ref55: Few, Doubtful; law55's valid.
-/
import Derived.Test.YtbdaaopebgcnaaaGreatDoorLibSM
import Derived.Test.YtbdaaopebgcnaaaGreatDoorLibNM
set_option linter.all false
set_option maxRecDepth 10000
set_option maxHeartbeats 4000000
namespace Go.Proofs.YtbdaaopebgcnaaaGreatDoor
open Go.Ideal Rk En
theorem aeA{s:aJ}{v1 v2 v3 v4 vl vf:Value}{l:List aA}{fs:List aR}{day:Int}(hW:vZ s.pg)(hb1:s.lv.length<9223372036854775808)(hb2:s.cl.length<9223372036854775808)(hb3:s.pz.length<9223372036854775808)(hb4:s.pg.length<9223372036854775808)(hx1:cellsOf v1=some [v1])(hx2:cellsOf v2=some [v2])(hx3:cellsOf v3=some [v3])(hx4:cellsOf v4=some [v4]):
 aT Tryz.prog (.func 60) [.agg ⟨kY s v1 v2 v3 v4⟩,vl,vf,.int .i64 day] [] [] [ae az v1 s.lv,ae az v2 s.cl,ae iw v3 s.pg,ae az v4 s.pz,ae bR vl l,ae eF vf fs] (λy:Int=>.int .i64 y) (λ_=>[]) (λ_=>[]) (λy=>y=eD s l fs day):=by
 refine aV _ (bB 60) λB w0=>?_;refine go ?_;intro b4;refine cu (fT (b:=b4)) (h:=?_);refine go ?_;refine aG (ady (s:=s) (v1:=v1) (v2:=v2) (v3:=v3) (v4:=v4) (l:=l) hW hb1 hb2 hb3 hb4 hx1 hx2 hx3 hx4) (next:=λy hy=>?_);subst hy;refine go ?_;refine aM rfl (λh1=>?_) (λh1=>?_)
 ·refine go ?_;exact aj _ (hv:=rfl) (hp:=(QC h1).symm)
 have h1:eZ s l=0:=rJ.1 h1;refine go ?_;refine aM rfl (λh2=>?_) (λh2=>?_)
 ·refine go ?_;exact aj 2 (hv:=rfl) (hp:=(QD h1 (by omega)).symm)
 refine go ?_;refine dQ (λk=>fs.length - k) (λk:Nat=>[(10,.int .i64 (k:Int))]) (λ_=>[]) (λ_=>[]) (λk=>k<=fs.length/\∀f∈fs.take k,rf s f) 0 ⟨dY _,by simp⟩ (body:=?_);rintro k ⟨hk,hall⟩;refine go ?_;refine aM rfl (λh3=>?_) (λh3=>?_)
 ·refine go ?_;refine eX eF (k:=k) (next:=λ_ _ f (vg:Value) hx=>?_);have hfm:=dA hx;refine eU (E:=az) (v:=vg) (xs:=f.g) (by simp) λag cg eg=>?_;subst eg;refine go ?_;intro b11;refine go ?_;refine gG (λe1=>?_) (λe1=>?_)
  rotate_left
  ·refine go ?_;exact aj 540 (hv:=rfl) (hp:=(sF h1 (by omega) (λh=>by have:=(h f hfm).p0;omega)).symm)
  refine go ?_;refine gG (λe2=>?_) (λe2=>?_)
  rotate_left
  ·refine go ?_;exact aj 540 (hv:=rfl) (hp:=(sF h1 (by omega) (λh=>by have:=(h f hfm).p1;omega)).symm)
  refine go ?_;refine gG (λe3=>?_) (λe3=>?_)
  ·have e4:f.k=1:=by omega
   refine go ?_;refine gG (λg1=>?_) (λg1=>?_)
   rotate_left
   ·refine go ?_;exact aj 540 (hv:=rfl) (hp:=(sF h1 (by omega) (λh=>by have:=(h f hfm).d0;omega)).symm)
   refine go ?_;refine aM rfl (λg2=>?_) (λg2=>?_)
   ·refine go ?_;exact aj 540 (hv:=rfl) (hp:=(sF h1 (by omega) (λh=>by have:=(h f hfm).d1;omega)).symm)
   refine go ?_;refine aY (k+1) (by omega) ⟨by omega,λz hz=>?_⟩;rw[fG hx,fI]at hz;rcases hz with hz|hz
   ·exact hall z hz
   ·rw[cB.1 hz];exact⟨by omega,by omega,by omega,by omega,by omega,by omega⟩
  refine go ?_;refine gG (λe4=>?_) (λe4=>?_)
  ·have e4:f.k=2:=by omega
   refine go ?_;refine gG (λg1=>?_) (λg1=>?_)
   rotate_left
   ·refine go ?_;exact aj 540 (hv:=rfl) (hp:=(sF h1 (by omega) (λh=>by have:=(h f hfm).d0;omega)).symm)
   refine go ?_;refine aM rfl (λg2=>?_) (λg2=>?_)
   ·refine go ?_;exact aj 540 (hv:=rfl) (hp:=(sF h1 (by omega) (λh=>by have:=(h f hfm).d1;omega)).symm)
   refine go ?_;refine aY (k+1) (by omega) ⟨by omega,λz hz=>?_⟩;rw[fG hx,fI]at hz;rcases hz with hz|hz
   ·exact hall z hz
   ·rw[cB.1 hz];exact⟨by omega,by omega,by omega,by omega,by omega,by omega⟩
  refine go ?_;refine gG (λe5=>?_) (λe5=>?_)
  ·have e4:f.k=3:=by omega
   refine go ?_;refine gG (λg1=>?_) (λg1=>?_)
   rotate_left
   ·refine go ?_;exact aj 540 (hv:=rfl) (hp:=(sF h1 (by omega) (λh=>by have:=(h f hfm).d0;omega)).symm)
   refine go ?_;refine aM rfl (λg2=>?_) (λg2=>?_)
   ·refine go ?_;exact aj 540 (hv:=rfl) (hp:=(sF h1 (by omega) (λh=>by have:=(h f hfm).d1;omega)).symm)
   refine go ?_;refine aY (k+1) (by omega) ⟨by omega,λz hz=>?_⟩;rw[fG hx,fI]at hz;rcases hz with hz|hz
   ·exact hall z hz
   ·rw[cB.1 hz];exact⟨by omega,by omega,by omega,by omega,by omega,by omega⟩
  refine go ?_;exact aj 540 (hv:=rfl) (hp:=(sF h1 (by omega) (λh=>by have:=(h f hfm).k1;have:=(h f hfm).k3;omega)).symm)
 have hkl:k=fs.length:=by omega
 subst hkl;rw[iB]at hall;refine go ?_;refine gG (λe1=>?_) (λe1=>?_)
 rotate_left
 ·refine go ?_;exact aj 1 (hv:=rfl) (hp:=(JY h1 (by omega) hall (by omega)).symm)
 refine go ?_;refine aM rfl (λe2=>?_) (λe2=>?_)
 ·refine go ?_;exact aj 1 (hv:=rfl) (hp:=(JY h1 (by omega) hall (by omega)).symm)
 refine go ?_;exact aj 0 (hv:=rfl) (hp:=(JZ ⟨h1,by omega,hall,by omega,by omega⟩).symm)
theorem aeB(fs:List aR)(f:aR)(day p:Int):fty (fs++[f]) day p=(fty fs day p||(decide (f.k≠3)&&(decide (f.d<=day)&&decide (f.p=p)))):=by
 unfold fty;rw[List.any_append,List.any_cons,List.any_nil,Gf]
theorem aeC{fs:List aR}{f:aR}{day p:Int}(hf:f∈fs)(h1:f.k≠3)(h2:f.d<=day)(h3:f.p=p):fty fs day p=true:=wC.2 ⟨f,hf,by rw[fK h1,fK h2,fK h3];rfl⟩
theorem aeD{vf:Value}{fs:List aR}{day p:Int}(hl:fs.length<=16):ik Tryz.prog 61 [vf,.int .i64 p,.int .i64 day] [ae eF vf fs] (.bool (fty fs day p)):=by
 refine aV _ (bB 61) λB w0=>?_;refine go ?_;refine dQ (λk=>fs.length - k) (λk:Nat=>[(7,.int .i64 (k:Int))]) (λ_=>[]) (λ_=>[]) (λk=>k<=fs.length/\fty (fs.take k) day p=false) 0 ⟨dY _,rfl⟩ (body:=?_);rintro k ⟨hk,hno⟩;refine go ?_;refine aM rfl (λh3=>?_) (λh3=>?_)
 ·refine go ?_;refine eX eF (k:=k) (next:=λ_ _ f (vg:Value) hx=>?_);refine eU (E:=az) (v:=vg) (xs:=f.g) (by simp) λag cg eg=>?_;subst eg;have hs:fty (fs.take (k+1)) day p=(decide (f.k≠3)&&(decide (f.d<=day)&&decide (f.p=p))):=by rw[fG hx,aeB,hno,Bool.false_or]
  refine go ?_;intro b8;refine go ?_;refine gG (λe1=>?_) (λe1=>?_)
  ·refine go ?_;exact aY (k+1) (by omega) ⟨by omega,by rw[hs,gq e1];simp⟩
  refine go ?_;refine gG (λe2=>?_) (λe2=>?_)
  ·refine go ?_;exact aY (k+1) (by omega) ⟨by omega,by rw[hs,gq e2];rfl⟩
  refine go ?_;refine aM rfl (λe3=>?_) (λe3=>?_)
  ·refine go ?_;exact aj () (hv:=by rw[aeC (dA hx) e2 e3 e1];rfl) (hp:=trivial)
  refine go ?_;exact aY (k+1) (by omega) ⟨by omega,by rw[hs,gq e3];simp⟩
 have hkl:k=fs.length:=by omega
 subst hkl;rw[iB]at hno;refine go ?_;exact aj () (hv:=by rw[hno];rfl) (hp:=trivial)
theorem aeE{s:aJ}{v1 v2 v3 v4 vl vf:Value}{l:List aA}{fs:List aR}{day:Int}(hW:vZ s.pg)(hb1:s.lv.length<9223372036854775808)(hb2:s.cl.length<9223372036854775808)(hb3:s.pz.length<9223372036854775808)(hb4:s.pg.length<9223372036854775808)(hx1:cellsOf v1=some [v1])(hx2:cellsOf v2=some [v2])(hx3:cellsOf v3=some [v3])(hx4:cellsOf v4=some [v4]):
 aT Tryz.prog (.func 35) [.agg ⟨kY s v1 v2 v3 v4⟩,vl,vf,.int .i64 day] [] [] [ae az v1 s.lv,ae az v2 s.cl,ae iw v3 s.pg,ae az v4 s.pz,ae bR vl l,ae eF vf fs] (λy:Value×Int=>.tuple ⟨[y.1,.int .i64 y.2]⟩) (λ_=>[]) (λ_=>[]) (λy=>y.2=eD s l fs day):=by
 refine aV _ (bB 35) λB w0=>?_;refine go ?_;intro b4;refine go ?_;refine aG (aeA (s:=s) (v1:=v1) (v2:=v2) (v3:=v3) (v4:=v4) (l:=l) (fs:=fs) hW hb1 hb2 hb3 hb4 hx1 hx2 hx3 hx4) (next:=λy hy=>?_);subst hy;refine go ?_;refine aM rfl (λh1=>?_) (λh1=>?_)
 ·refine go ?_;exact aj (.slice none 0 0,eD s l fs day) (hv:=rfl) (hp:=rfl)
 have h1:eD s l fs day=0:=rJ.1 h1;have hR:=xB h1;have hll:=(pY hR.ck).len;have hfl:=hR.f16;rw[h1];refine go ?_;intro xI;refine go ?_;refine Yp bR ah.here ?_;refine dQ (λy:Nat×Value=>l.length - y.1) (λy=>[(12,.int .i64 (y.1:Int)),(11,y.2)]) (λy=>[ap bR y.2 (dz (l.take y.1) fs day)]) (λ_=>[]) (λy=>y.1<=l.length) (0,.slice (some ⟨xI,0,some 0⟩) 0 0) (dY _) (hk:=by repeat (first|exact aL.nil|(apply aL.cons;(focus (repeat (first|exact ah.here|apply ah.there)))))) (body:=?_);rintro⟨k,v11⟩ hk;dsimp only at hk⊢;have hrl:(dz (l.take k) fs day).length=k:=by rw[zx,fB];omega
 refine go ?_;refine aM rfl (λh2=>?_) (λh2=>?_)
 ·refine go ?_;refine eX bR (k:=k) (next:=λ_ _ x _ hx=>?_);have hs:∀r,r=(x.r&&!fty fs day x.p)->dz (l.take k) fs day++[{x with r:=r}]=dz (l.take (k+1)) fs day:=λr hr=>by
   rw[fG hx];unfold dz;rw[dM,hr];rfl
  refine go ?_;intro b13;refine go ?_;cases sI:x.r with
  |false=>
   refine go ?_;intro b46;refine go ?_;refine qN (xs:=dz (l.take k) fs day) bR {x with r:=false} () (by omega) (next:=λad=>?_);rw[hs false (by rw[sI];rfl)];refine go ?_;exact aY (k+1,.slice ad ((dz (l.take k) fs day).length+1) ((dz (l.take k) fs day).length+1)) (by show l.length - (k+1)<l.length - k;omega) (by show k+1<=_;omega)
  |true=>
   refine go ?_;refine aG (aeD (fs:=fs) (day:=day) (p:=x.p) hfl) (next:=λ_ _=>?_);refine go ?_;intro b46;refine go ?_;refine qN (xs:=dz (l.take k) fs day) bR {x with r:=!fty fs day x.p} () (by omega) (next:=λad=>?_);rw[hs (!fty fs day x.p) (by rw[sI];rfl)];refine go ?_;exact aY (k+1,.slice ad ((dz (l.take k) fs day).length+1) ((dz (l.take k) fs day).length+1)) (by show l.length - (k+1)<l.length - k;omega) (by show k+1<=_;omega)
 refine go ?_;exact aj (v11,0) (hv:=rfl) (hp:=rfl)
theorem aeG{s:aJ}{v1 v2 v3 v4 vl vf:Value}{l:List aA}{fs:List aR}(hx1:cellsOf v1=some [v1])(hx2:cellsOf v2=some [v2])(hx3:cellsOf v3=some [v3])(hx4:cellsOf v4=some [v4]):
 aT Tryz.prog (.func 59) [.agg ⟨kY s v1 v2 v3 v4⟩,vl,vf] [] [] [ae az v1 s.lv,ae az v2 s.cl,ae iw v3 s.pg,ae az v4 s.pz,ae bR vl l,ae eF vf fs] (λb:Bool=>.bool b) (λ_=>[]) (λ_=>[]) (λb=>b=true->s.c<=4):=by
 refine aV _ (bB 59) λB w0=>?_;refine go ?_;intro b3;refine go ?_;refine aG (ad7 (s:=s) (v1:=v1) (v2:=v2) (v3:=v3) (v4:=v4) (vl:=vl) (l:=l) hx1 hx2 hx3 hx4) (next:=λb hb=>?_);cases b with
 |false=>
  refine go ?_;exact aj false (hv:=rfl) (hp:=λh=>by cases h)
 |true=>
  refine go ?_;exact aj _ (hv:=rfl) (hp:=λ_=>(hb rfl).1)
theorem aeH{s:aJ}{v1 v2 v3 v4 vl vf vo:Value}{l:List aA}{fs:List aR}{o:List Bool}(hx1:cellsOf v1=some [v1])(hx2:cellsOf v2=some [v2])(hx3:cellsOf v3=some [v3])(hx4:cellsOf v4=some [v4]):
 aT Tryz.prog (.func 34) [.agg ⟨kY s v1 v2 v3 v4⟩,vl,vo,vf] [] [] [ae az v1 s.lv,ae az v2 s.cl,ae iw v3 s.pg,ae az v4 s.pz,ae bR vl l,ae mO vo o,ae eF vf fs] (λb:Bool=>.bool b) (λ_=>[]) (λ_=>[]) (λb=>b=true->s.c<=4):=by
 refine aV _ (bB 34) λB w0=>?_;refine go ?_;intro b4;refine go ?_;refine aG (aeG (s:=s) (v1:=v1) (v2:=v2) (v3:=v3) (v4:=v4) (vl:=vl) (vf:=vf) (l:=l) (fs:=fs) hx1 hx2 hx3 hx4) (next:=λb hb=>?_);cases b with
 |false=>
  refine go ?_;exact aj false (hv:=rfl) (hp:=λh=>by cases h)
 |true=>
  refine go ?_;refine gG (λe1=>?_) (λe1=>?_)
  ·refine go ?_;exact aj false (hv:=rfl) (hp:=λh=>by cases h)
  refine go ?_;exact aj _ (hv:=rfl) (hp:=λ_=>hb rfl)
theorem aeI{s:aJ}{v1 v2 v3 v4 vl vf vo:Value}{l:List aA}{fs:List aR}{o:List Bool}{day:Int}(hW:vZ s.pg)(hb1:s.lv.length<9223372036854775808)(hb2:s.cl.length<9223372036854775808)(hb3:s.pz.length<9223372036854775808)(hb4:s.pg.length<9223372036854775808)(hx1:cellsOf v1=some [v1])(hx2:cellsOf v2=some [v2])(hx3:cellsOf v3=some [v3])(hx4:cellsOf v4=some [v4]):
 aT Tryz.prog (.func 12) [.agg ⟨kY s v1 v2 v3 v4⟩,vl,vo,vf,.int .i64 day] [] [] [ae az v1 s.lv,ae az v2 s.cl,ae iw v3 s.pg,ae az v4 s.pz,ae bR vl l,ae mO vo o,ae eF vf fs] (λb:Bool=>.bool b) (λ_=>[]) (λ_=>[]) (λb=>b=true->s.c<=4/\o.length=l.length/\eD s l fs day=0):=by
 refine aV _ (bB 12) λB w0=>?_;refine go ?_;intro b5;refine go ?_;refine aG (aeH (s:=s) (v1:=v1) (v2:=v2) (v3:=v3) (v4:=v4) (vl:=vl) (vf:=vf) (vo:=vo) (l:=l) (fs:=fs) (o:=o) hx1 hx2 hx3 hx4) (next:=λb hb=>?_);cases b with
 |false=>
  refine go ?_;exact aj false (hv:=rfl) (hp:=λh=>by cases h)
 |true=>
  refine go ?_;refine aM rfl (λh2=>?_) (λh2=>?_)
  ·refine go ?_;exact aj false (hv:=rfl) (hp:=λh=>by cases h)
  refine go ?_;refine aG (aeE (s:=s) (v1:=v1) (v2:=v2) (v3:=v3) (v4:=v4) (l:=l) (fs:=fs) hW hb1 hb2 hb3 hb4 hx1 hx2 hx3 hx4) (next:=λy hy=>?_);obtain⟨vy,ey⟩:=y;dsimp only at hy;subst hy;refine go ?_;exact aj (decide (eD s l fs day=0)) (hv:=rfl) (hp:=λh=>⟨hb rfl,by omega,sN h⟩)
def nu(fs:List aR)(day:Int)(n:Nat):List Nat:=(List.range n).filter λ(p:Nat)=>sG fs day p
theorem Sz(fs:List aR)(day:Int)(n:Nat):nu fs day (n+1)=if sG fs day n then nu fs day n++[n]else nu fs day n:=by
 unfold nu;rw[List.range_succ,List.filter_append];by_cases h:sG fs day (n:Int)
 ·rw[if_pos h,List.filter_cons_of_pos (p:=λ(p:Nat)=>sG fs day p) h];rfl
 ·rw[if_neg h,List.filter_cons_of_neg (p:=λ(p:Nat)=>sG fs day p) h];simp
theorem aeJ(fs:List aR)(day:Int)(n:Nat):(nu fs day n).length<=n:=by
 have:=List.length_filter_le (λ(p:Nat)=>sG fs day p) (List.range n);rw[Lt]at this;exact this
