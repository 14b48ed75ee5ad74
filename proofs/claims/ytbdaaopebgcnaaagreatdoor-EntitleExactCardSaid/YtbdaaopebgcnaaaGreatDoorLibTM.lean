/-
  ref54: valid, Faulty, Results; ref55: Few, Doubtful; law55's valid.
-/
import Derived.Test.YtbdaaopebgcnaaaGreatDoorLibSM
import Derived.Test.YtbdaaopebgcnaaaGreatDoorLibNM
set_option linter.all false
set_option maxRecDepth 10000
set_option maxHeartbeats 4000000
namespace Go.Proofs.YtbdaaopebgcnaaaGreatDoor
open Go.Ideal Rk En
theorem ahi{s:aK}{v1 v2 v3 v4 vl vf:Value}{l:List ak}{fs:List aU}{day:Int}(hW:qB s.pg)(hb1:s.lv.length<9223372036854775808)(hb2:s.cl.length<9223372036854775808)(hb3:s.pz.length<9223372036854775808)(hb4:s.pg.length<9223372036854775808)(hx1:cellsOf v1=some [v1])(hx2:cellsOf v2=some [v2])(hx3:cellsOf v3=some [v3])(hx4:cellsOf v4=some [v4]):
 aX Tryz.prog (.func 60) [.agg ⟨jD s v1 v2 v3 v4⟩,vl,vf,.int .i64 day] [] [] [ae ah v1 s.lv,ae ah v2 s.cl,ae fP v3 s.pg,ae ah v4 s.pz,ae aZ vl l,ae dS vf fs] (λy:Int=>.int .i64 y) (λ_=>[]) (λ_=>[]) (λy=>y=eG s l fs day):=by
 refine aT _ (bz 60) λB w0=>?_;refine go ?_;intro b4;refine bP (fQ (b:=b4)) (h:=?_);refine go ?_;refine aB (Vm (s:=s) (v1:=v1) (v2:=v2) (v3:=v3) (v4:=v4) (l:=l) hW hb1 hb2 hb3 hb4 hx1 hx2 hx3 hx4) (next:=λy hy=>?_);subst hy;refine go ?_;refine aC rfl (λh1=>?_) (λh1=>?_)
 ·refine go ?_;exact aj _ (hv:=rfl) (hp:=(TJ h1).symm)
 have h1:dL s l=0:=qd.1 h1;refine go ?_;refine aC rfl (λh2=>?_) (λh2=>?_)
 ·refine go ?_;exact aj 2 (hv:=rfl) (hp:=(TK h1 (by omega)).symm)
 refine go ?_;refine bR (λk=>fs.length - k) (λk:Nat=>[(10,.int .i64 (k:Int))]) (λ_=>[]) (λ_=>[]) (λk=>k<=fs.length/\∀f∈fs.take k,tO s f) 0 ⟨cu _,by simp⟩ (body:=?_);rintro k ⟨hk,hall⟩;refine go ?_;refine aC rfl (λh3=>?_) (λh3=>?_)
 ·refine go ?_;refine cZ dS (k:=k) (next:=λ_ _ f (vg:Value) hx=>?_);have hfm:=dA hx;refine eY (E:=ah) (v:=vg) (xs:=f.g) (by simp) λag cg eg=>?_;subst eg;refine go ?_;intro b11;refine go ?_;refine gG (λe1=>?_) (λe1=>?_)
  rotate_left
  ·refine go ?_;exact aj 540 (hv:=rfl) (hp:=(uL h1 (by omega) (λh=>by have:=(h f hfm).p0;omega)).symm)
  refine go ?_;refine gG (λe2=>?_) (λe2=>?_)
  rotate_left
  ·refine go ?_;exact aj 540 (hv:=rfl) (hp:=(uL h1 (by omega) (λh=>by have:=(h f hfm).p1;omega)).symm)
  refine go ?_;refine gG (λe3=>?_) (λe3=>?_)
  ·have e4:f.k=1:=by omega
   refine go ?_;refine gG (λg1=>?_) (λg1=>?_)
   rotate_left
   ·refine go ?_;exact aj 540 (hv:=rfl) (hp:=(uL h1 (by omega) (λh=>by have:=(h f hfm).d0;omega)).symm)
   refine go ?_;refine aC rfl (λg2=>?_) (λg2=>?_)
   ·refine go ?_;exact aj 540 (hv:=rfl) (hp:=(uL h1 (by omega) (λh=>by have:=(h f hfm).d1;omega)).symm)
   refine go ?_;refine aL (k+1) (by omega) ⟨by omega,λz hz=>?_⟩;rw[eD hx,gF]at hz;rcases hz with hz|hz
   ·exact hall z hz
   ·rw[cz.1 hz];exact⟨by omega,by omega,by omega,by omega,by omega,by omega⟩
  refine go ?_;refine gG (λe4=>?_) (λe4=>?_)
  ·have e4:f.k=2:=by omega
   refine go ?_;refine gG (λg1=>?_) (λg1=>?_)
   rotate_left
   ·refine go ?_;exact aj 540 (hv:=rfl) (hp:=(uL h1 (by omega) (λh=>by have:=(h f hfm).d0;omega)).symm)
   refine go ?_;refine aC rfl (λg2=>?_) (λg2=>?_)
   ·refine go ?_;exact aj 540 (hv:=rfl) (hp:=(uL h1 (by omega) (λh=>by have:=(h f hfm).d1;omega)).symm)
   refine go ?_;refine aL (k+1) (by omega) ⟨by omega,λz hz=>?_⟩;rw[eD hx,gF]at hz;rcases hz with hz|hz
   ·exact hall z hz
   ·rw[cz.1 hz];exact⟨by omega,by omega,by omega,by omega,by omega,by omega⟩
  refine go ?_;refine gG (λe5=>?_) (λe5=>?_)
  ·have e4:f.k=3:=by omega
   refine go ?_;refine gG (λg1=>?_) (λg1=>?_)
   rotate_left
   ·refine go ?_;exact aj 540 (hv:=rfl) (hp:=(uL h1 (by omega) (λh=>by have:=(h f hfm).d0;omega)).symm)
   refine go ?_;refine aC rfl (λg2=>?_) (λg2=>?_)
   ·refine go ?_;exact aj 540 (hv:=rfl) (hp:=(uL h1 (by omega) (λh=>by have:=(h f hfm).d1;omega)).symm)
   refine go ?_;refine aL (k+1) (by omega) ⟨by omega,λz hz=>?_⟩;rw[eD hx,gF]at hz;rcases hz with hz|hz
   ·exact hall z hz
   ·rw[cz.1 hz];exact⟨by omega,by omega,by omega,by omega,by omega,by omega⟩
  refine go ?_;exact aj 540 (hv:=rfl) (hp:=(uL h1 (by omega) (λh=>by have:=(h f hfm).k1;have:=(h f hfm).k3;omega)).symm)
 have hkl:k=fs.length:=by omega
 subst hkl;rw[gV]at hall;refine go ?_;refine gG (λe1=>?_) (λe1=>?_)
 rotate_left
 ·refine go ?_;exact aj 1 (hv:=rfl) (hp:=(MO h1 (by omega) hall (by omega)).symm)
 refine go ?_;refine aC rfl (λe2=>?_) (λe2=>?_)
 ·refine go ?_;exact aj 1 (hv:=rfl) (hp:=(MO h1 (by omega) hall (by omega)).symm)
 refine go ?_;exact aj 0 (hv:=rfl) (hp:=(Ig ⟨h1,by omega,hall,by omega,by omega⟩).symm)
theorem ahj(fs:List aU)(f:aU)(day p:Int):fty (fs++[f]) day p=(fty fs day p||(decide (f.k≠3)&&(decide (f.d<=day)&&decide (f.p=p)))):=by
 unfold fty;rw[zB,Jv,List.any_nil,oP]
theorem ahk{fs:List aU}{f:aU}{day p:Int}(hf:f∈fs)(h1:f.k≠3)(h2:f.d<=day)(h3:f.p=p):fty fs day p=true:=sw.2 ⟨f,hf,by rw[eP h1,eP h2,eP h3];rfl⟩
theorem ahl{vf:Value}{fs:List aU}{day p:Int}(hl:fs.length<=16):gy Tryz.prog 61 [vf,.int .i64 p,.int .i64 day] [ae dS vf fs] (.bool (fty fs day p)):=by
 refine aT _ (bz 61) λB w0=>?_;refine go ?_;refine bR (λk=>fs.length - k) (λk:Nat=>[(7,.int .i64 (k:Int))]) (λ_=>[]) (λ_=>[]) (λk=>k<=fs.length/\fty (fs.take k) day p=false) 0 ⟨cu _,rfl⟩ (body:=?_);rintro k ⟨hk,hno⟩;refine go ?_;refine aC rfl (λh3=>?_) (λh3=>?_)
 ·refine go ?_;refine cZ dS (k:=k) (next:=λ_ _ f (vg:Value) hx=>?_);refine eY (E:=ah) (v:=vg) (xs:=f.g) (by simp) λag cg eg=>?_;subst eg;have hs:fty (fs.take (k+1)) day p=(decide (f.k≠3)&&(decide (f.d<=day)&&decide (f.p=p))):=by rw[eD hx,ahj,hno,EH]
  refine go ?_;intro b8;refine go ?_;refine gG (λe1=>?_) (λe1=>?_)
  ·refine go ?_;exact aL (k+1) (by omega) ⟨by omega,by rw[hs,fB e1];simp⟩
  refine go ?_;refine gG (λe2=>?_) (λe2=>?_)
  ·refine go ?_;exact aL (k+1) (by omega) ⟨by omega,by rw[hs,fB e2];rfl⟩
  refine go ?_;refine aC rfl (λe3=>?_) (λe3=>?_)
  ·refine go ?_;exact aj () (hv:=by rw[ahk (dA hx) e2 e3 e1];rfl) (hp:=trivial)
  refine go ?_;exact aL (k+1) (by omega) ⟨by omega,by rw[hs,fB e3];simp⟩
 have hkl:k=fs.length:=by omega
 subst hkl;rw[gV]at hno;refine go ?_;exact aj () (hv:=by rw[hno];rfl) (hp:=trivial)
theorem ahm{s:aK}{v1 v2 v3 v4 vl vf:Value}{l:List ak}{fs:List aU}{day:Int}(hW:qB s.pg)(hb1:s.lv.length<9223372036854775808)(hb2:s.cl.length<9223372036854775808)(hb3:s.pz.length<9223372036854775808)(hb4:s.pg.length<9223372036854775808)(hx1:cellsOf v1=some [v1])(hx2:cellsOf v2=some [v2])(hx3:cellsOf v3=some [v3])(hx4:cellsOf v4=some [v4]):
 aX Tryz.prog (.func 35) [.agg ⟨jD s v1 v2 v3 v4⟩,vl,vf,.int .i64 day] [] [] [ae ah v1 s.lv,ae ah v2 s.cl,ae fP v3 s.pg,ae ah v4 s.pz,ae aZ vl l,ae dS vf fs] (λy:Value×Int=>.tuple ⟨[y.1,.int .i64 y.2]⟩) (λ_=>[]) (λ_=>[]) (λy=>y.2=eG s l fs day):=by
 refine aT _ (bz 35) λB w0=>?_;refine go ?_;intro b4;refine go ?_;refine aB (ahi (s:=s) (v1:=v1) (v2:=v2) (v3:=v3) (v4:=v4) (l:=l) (fs:=fs) hW hb1 hb2 hb3 hb4 hx1 hx2 hx3 hx4) (next:=λy hy=>?_);subst hy;refine go ?_;refine aC rfl (λh1=>?_) (λh1=>?_)
 ·refine go ?_;exact aj (.slice none 0 0,eG s l fs day) (hv:=rfl) (hp:=rfl)
 have h1:eG s l fs day=0:=qd.1 h1;have hR:=uM h1;have hll:=(l7 hR.ck).len;have hfl:=hR.f16;rw[h1];refine go ?_;intro ze;refine go ?_;refine QX aZ ai.here ?_;refine bR (λy:Nat×Value=>l.length - y.1) (λy=>[(12,.int .i64 (y.1:Int)),(11,y.2)]) (λy=>[ap aZ y.2 (bO (l.take y.1) fs day)]) (λ_=>[]) (λy=>y.1<=l.length) (0,.slice (some ⟨ze,0,some 0⟩) 0 0) (cu _) (hk:=by repeat (first|exact aI.nil|(apply aI.cons;(focus (repeat (first|exact ai.here|apply ai.there)))))) (body:=?_);rintro⟨k,v11⟩ hk;dsimp only at hk⊢;have hrl:(bO (l.take k) fs day).length=k:=by rw[xL,cB];omega
 refine go ?_;refine aC rfl (λh2=>?_) (λh2=>?_)
 ·refine go ?_;refine cZ aZ (k:=k) (next:=λ_ _ x _ hx=>?_);have hs:∀r,r=(x.r&&!fty fs day x.p)->bO (l.take k) fs day++[{x with r:=r}]=bO (l.take (k+1)) fs day:=λr hr=>by
   rw[eD hx];unfold bO;rw[eB,hr];rfl
  refine go ?_;intro b13;refine go ?_;cases pV:x.r with
  |false=>
   refine go ?_;intro b46;refine go ?_;refine lY (xs:=bO (l.take k) fs day) aZ {x with r:=false} () (by omega) (next:=λad=>?_);rw[hs false (by rw[pV];rfl)];refine go ?_;exact aL (k+1,.slice ad ((bO (l.take k) fs day).length+1) ((bO (l.take k) fs day).length+1)) (by show l.length - (k+1)<l.length - k;omega) (by show k+1<=_;omega)
  |true=>
   refine go ?_;refine aB (ahl (fs:=fs) (day:=day) (p:=x.p) hfl) (next:=λ_ _=>?_);refine go ?_;intro b46;refine go ?_;refine lY (xs:=bO (l.take k) fs day) aZ {x with r:=!fty fs day x.p} () (by omega) (next:=λad=>?_);rw[hs (!fty fs day x.p) (by rw[pV];rfl)];refine go ?_;exact aL (k+1,.slice ad ((bO (l.take k) fs day).length+1) ((bO (l.take k) fs day).length+1)) (by show l.length - (k+1)<l.length - k;omega) (by show k+1<=_;omega)
 refine go ?_;exact aj (v11,0) (hv:=rfl) (hp:=rfl)
theorem aho{s:aK}{v1 v2 v3 v4 vl vf:Value}{l:List ak}{fs:List aU}(hx1:cellsOf v1=some [v1])(hx2:cellsOf v2=some [v2])(hx3:cellsOf v3=some [v3])(hx4:cellsOf v4=some [v4]):
 aX Tryz.prog (.func 59) [.agg ⟨jD s v1 v2 v3 v4⟩,vl,vf] [] [] [ae ah v1 s.lv,ae ah v2 s.cl,ae fP v3 s.pg,ae ah v4 s.pz,ae aZ vl l,ae dS vf fs] (λb:Bool=>.bool b) (λ_=>[]) (λ_=>[]) (λb=>b=true->s.c<=4):=by
 refine aT _ (bz 59) λB w0=>?_;refine go ?_;intro b3;refine go ?_;refine aB (agJ (s:=s) (v1:=v1) (v2:=v2) (v3:=v3) (v4:=v4) (vl:=vl) (l:=l) hx1 hx2 hx3 hx4) (next:=λb hb=>?_);cases b with
 |false=>
  refine go ?_;exact aj false (hv:=rfl) (hp:=λh=>by cases h)
 |true=>
  refine go ?_;exact aj _ (hv:=rfl) (hp:=λ_=>(hb rfl).1)
theorem ahp{s:aK}{v1 v2 v3 v4 vl vf vo:Value}{l:List ak}{fs:List aU}{o:List Bool}(hx1:cellsOf v1=some [v1])(hx2:cellsOf v2=some [v2])(hx3:cellsOf v3=some [v3])(hx4:cellsOf v4=some [v4]):
 aX Tryz.prog (.func 34) [.agg ⟨jD s v1 v2 v3 v4⟩,vl,vo,vf] [] [] [ae ah v1 s.lv,ae ah v2 s.cl,ae fP v3 s.pg,ae ah v4 s.pz,ae aZ vl l,ae kK vo o,ae dS vf fs] (λb:Bool=>.bool b) (λ_=>[]) (λ_=>[]) (λb=>b=true->s.c<=4):=by
 refine aT _ (bz 34) λB w0=>?_;refine go ?_;intro b4;refine go ?_;refine aB (aho (s:=s) (v1:=v1) (v2:=v2) (v3:=v3) (v4:=v4) (vl:=vl) (vf:=vf) (l:=l) (fs:=fs) hx1 hx2 hx3 hx4) (next:=λb hb=>?_);cases b with
 |false=>
  refine go ?_;exact aj false (hv:=rfl) (hp:=λh=>by cases h)
 |true=>
  refine go ?_;refine gG (λe1=>?_) (λe1=>?_)
  ·refine go ?_;exact aj false (hv:=rfl) (hp:=λh=>by cases h)
  refine go ?_;exact aj _ (hv:=rfl) (hp:=λ_=>hb rfl)
theorem NP{s:aK}{v1 v2 v3 v4 vl vf vo:Value}{l:List ak}{fs:List aU}{o:List Bool}{day:Int}(hW:qB s.pg)(hb1:s.lv.length<9223372036854775808)(hb2:s.cl.length<9223372036854775808)(hb3:s.pz.length<9223372036854775808)(hb4:s.pg.length<9223372036854775808)(hx1:cellsOf v1=some [v1])(hx2:cellsOf v2=some [v2])(hx3:cellsOf v3=some [v3])(hx4:cellsOf v4=some [v4]):
 aX Tryz.prog (.func 12) [.agg ⟨jD s v1 v2 v3 v4⟩,vl,vo,vf,.int .i64 day] [] [] [ae ah v1 s.lv,ae ah v2 s.cl,ae fP v3 s.pg,ae ah v4 s.pz,ae aZ vl l,ae kK vo o,ae dS vf fs] (λb:Bool=>.bool b) (λ_=>[]) (λ_=>[]) (λb=>b=true->s.c<=4/\o.length=l.length/\eG s l fs day=0):=by
 refine aT _ (bz 12) λB w0=>?_;refine go ?_;intro b5;refine go ?_;refine aB (ahp (s:=s) (v1:=v1) (v2:=v2) (v3:=v3) (v4:=v4) (vl:=vl) (vf:=vf) (vo:=vo) (l:=l) (fs:=fs) (o:=o) hx1 hx2 hx3 hx4) (next:=λb hb=>?_);cases b with
 |false=>
  refine go ?_;exact aj false (hv:=rfl) (hp:=λh=>by cases h)
 |true=>
  refine go ?_;refine aC rfl (λh2=>?_) (λh2=>?_)
  ·refine go ?_;exact aj false (hv:=rfl) (hp:=λh=>by cases h)
  refine go ?_;refine aB (ahm (s:=s) (v1:=v1) (v2:=v2) (v3:=v3) (v4:=v4) (l:=l) (fs:=fs) hW hb1 hb2 hb3 hb4 hx1 hx2 hx3 hx4) (next:=λy hy=>?_);obtain⟨vy,ey⟩:=y;dsimp only at hy;subst hy;refine go ?_;exact aj (decide (eG s l fs day=0)) (hv:=rfl) (hp:=λh=>⟨hb rfl,by omega,si h⟩)
def jq(fs:List aU)(day:Int)(n:Nat):List Nat:=(List.range n).filter λ(p:Nat)=>oq fs day p
theorem Jd(fs:List aU)(day:Int)(n:Nat):jq fs day (n+1)=if oq fs day n then jq fs day n++[n]else jq fs day n:=by
 unfold jq;rw[List.range_succ,List.filter_append];by_cases h:oq fs day (n:Int)
 ·rw[if_pos h,List.filter_cons_of_pos (p:=λ(p:Nat)=>oq fs day p) h];rfl
 ·rw[if_neg h,List.filter_cons_of_neg (p:=λ(p:Nat)=>oq fs day p) h];simp
theorem VU(fs:List aU)(day:Int)(n:Nat):(jq fs day n).length<=n:=by
 have:=List.length_filter_le (λ(p:Nat)=>oq fs day p) (List.range n);rw[OD]at this;exact this
theorem ahq(fs:List aU)(f:aU)(day p:Int):oq (fs++[f]) day p=(oq fs day p||(decide (f.p=p)&&(decide (f.k=3)&&decide (f.d<=day)))):=by
 unfold oq;rw[zB,Jv,List.any_nil,oP]
theorem VV{s:aK}{v1 v2 v3 v4 vf:Value}{fs:List aU}{day:Int}(oJ:s.p<=8)(hp0:0<=s.p)(hfl:fs.length<=16)(hx1:cellsOf v1=some [v1])(hx2:cellsOf v2=some [v2])(hx3:cellsOf v3=some [v3])(hx4:cellsOf v4=some [v4]):
 aX Tryz.prog (.func 15) [.agg ⟨jD s v1 v2 v3 v4⟩,vf,.int .i64 day] [] [] [ae dS vf fs] (λv:Value=>v) (λ_=>[]) (λv=>[ae ah v (ints (aS s fs day))]) (λ_=>True):=by
 refine aT _ (bz 15) λB w0=>?_;refine go ?_;intro b3 b11;refine bP (fQ (b:=b3)) (h:=?_);refine go ?_;refine QX ah ai.here ?_;refine bR (λy:Nat×Value=>s.p.toNat - y.1) (λy=>[(8,.int .i64 (y.1:Int)),(7,y.2)]) (λy=>[ap ah y.2 (ints (jq fs day y.1))]) (λ_=>[]) (λy=>(y.1:Int)<=s.p) (0,.slice (some ⟨b11,0,some 0⟩) 0 0) hp0 (hk:=by repeat (first|exact aI.nil|(apply aI.cons;(focus (repeat (first|exact ai.here|apply ai.there)))))) (body:=?_);rintro⟨p,v7⟩ hp;dsimp only at hp⊢;have hdl:=VU fs day p;have hil:=om (jq fs day p);refine go ?_;refine aC rfl (λh1=>?_) (λh1=>?_)
 ·refine go ?_;refine bR (λz:Nat×Bool=>fs.length - z.1) (λz=>[(10,.int .i64 (z.1:Int)),(9,.bool z.2)]) (λ_=>[]) (λ_=>[]) (λz=>z.1<=fs.length/\z.2=oq (fs.take z.1) day p) (0,false) ⟨cu _,rfl⟩ (body:=?_);rintro⟨i,b⟩ ⟨hi,hb⟩;dsimp only at hi hb⊢;refine go ?_;refine aC rfl (λh2=>?_) (λh2=>?_)
  ·have hx:fs[i]? =some (fs[i]'(by omega)):=bB _;generalize fs[i]'(by omega)=f at hx;have hs:oq (fs.take (i+1)) day p=(b||(decide (f.p=p)&&(decide (f.k=3)&&decide (f.d<=day)))):=by rw[eD hx,ahq,hb]
   cases b with
   |true=>
    refine go ?_;exact aL (i+1,true) (by show fs.length - (i+1)<fs.length - i;omega) ⟨by show i+1<=_;omega,by rw[hs];rfl⟩
   |false=>
    refine go ?_;refine cZ dS (k:=i) (next:=λ_ _ f1 (vg:Value) hx1=>?_);cases hx.symm.trans hx1;refine go ?_;refine gG (λe1=>?_) (λe1=>?_)
    ·refine go ?_;exact aL (i+1,false) (by show fs.length - (i+1)<fs.length - i;omega) ⟨by show i+1<=_;omega,by rw[hs,fB e1];rfl⟩
    refine go ?_;refine cZ dS (k:=i) (next:=λ_ _ f2 (vg:Value) hx2=>?_);cases hx.symm.trans hx2;refine go ?_;refine gG (λe2=>?_) (λe2=>?_)
    ·refine go ?_;exact aL (i+1,false) (by show fs.length - (i+1)<fs.length - i;omega) ⟨by show i+1<=_;omega,by rw[hs,fB e2];simp⟩
    refine go ?_;refine cZ dS (k:=i) (next:=λ_ _ f3 (vg:Value) hx3=>?_);cases hx.symm.trans hx3;refine go ?_;exact aL (i+1,decide (f.d<=day)) (by show fs.length - (i+1)<fs.length - i;omega) ⟨by show i+1<=_;omega,by rw[hs,eP e1,eP e2];rfl⟩
  have ahr:i=fs.length:=by omega
  subst ahr;rw[gV]at hb;refine go ?_;refine iW rfl (λh3=>?_) (λh3=>?_)
  ·refine go ?_;intro b54;refine go ?_;refine lY (xs:=ints (jq fs day p)) ah (p:Int) () (by omega) (next:=λad=>?_);rw[<- Dz,show jq fs day p++[p]=jq fs day (p+1)by rw[Jd,if_pos (hb▸h3)]];refine go ?_;exact aL (p+1,.slice ad ((ints (jq fs day p)).length+1) ((ints (jq fs day p)).length+1)) (by show s.p.toNat - (p+1)<s.p.toNat - p;omega) (by show((p+1:Nat):Int)<=_;omega)
  ·rw[show jq fs day p=jq fs day (p+1)by rw[Jd,if_neg (by rw[<- hb,h3];simp)]];refine go ?_;exact aL (p+1,v7) (by show s.p.toNat - (p+1)<s.p.toNat - p;omega) (by show((p+1:Nat):Int)<=_;omega)
 have hpe:p=s.p.toNat:=by omega
 subst hpe;rw[show jq fs day s.p.toNat=aS s fs day from rfl];refine bP (rD (E:=ah) (v:=v7) (xs:=ints (aS s fs day))) (h:=?_);refine go ?_;exact aj v7 (hv:=rfl) (hp:=trivial)
