/-
  Symmetries checked: values, sets, neighbors; all conditions; images.Check.
-/
import Derived.Test.YtfakljdleblkoaaGreatLibOM
set_option linter.all false
set_option maxRecDepth 10000
set_option maxHeartbeats 4000000
namespace Go.Proofs.YtfakljdleblkoaaGreat
open Go.Ideal Kd Canon
theorem Za{k:aU}{i:Nat}{x:lG}(h:k.decl.symbols[i]? =some x):aP (gu k) (i:Int)=x.value:=by
 apply jJ;unfold gu;rw[dR,h];rfl
section
variable {m:Nat} {k:aU} {s t:List Int} {r:bV} {vh vs vr vc vu gh gc vn vl sc st v1 v2:Value}
theorem alp(hm:k.decl.symbols.length=m)(ht:dB m t)(hl:m<=4096):BQ Tryz.prog (.func 187) k s t r vh vs vr vc vu gh gc vn vl sc st v1 v2 (nC (gu k) t):=by
 have htl:=ht.len;refine aK _ (aM 187) λB w0=>?_;refine bY (E:=ae) (v:=st) (xs:=t) (by simp) λuY ct et=>?_;subst et;refine bY (E:=jF) (v:=vs) (xs:=k.decl.symbols) (by simp) λzY cs1 es1=>?_;subst es1;refine go ?_;intro b2 b3;refine aZ (dH (b:=b2)) (h:=?_);refine go ?_;refine bQ (λj:Nat=>t.length - j) (λj=>[(11,.int .i64 (j:Int))]) (λ_=>[]) (λ_=>[]) (λj=>j<=t.length/\∀i',i'<j->∀x,t[i']? =some x->aP (gu k) (i':Int)=aP (gu k) x) 0 ⟨dK _,λi' h=>absurd h (GR _)⟩ (body:=?_);rintro j ⟨hj,hall⟩;refine go ?_;refine aJ rfl (λh1=>?_) (λh1=>?_)
 ·refine go ?_;intro _ _ x hx;have nY:=ht.dZ x (aR hx);obtain⟨i,rfl⟩:=eO nY.1;refine go ?_;refine bZ jF (xs:=k.decl.symbols) (k:=j) (next:=λ_ _ y (_:Unit) hy=>?_);have e1:=Za hy;refine go ?_;refine bZ jF (xs:=k.decl.symbols) (k:=i) (next:=λ_ _ z (_:Unit) hz=>?_);have e2:=Za hz;refine go ?_;refine aJ rfl (λh2=>?_) (λh2=>?_)
  ·refine go ?_;refine aj () (hv:=?_) (hp:=trivial);have:nC (gu k) t=false:=by
    cases e:nC (gu k) t with
    |false=>rfl
    |true=>
     unfold nC at e;rw[qw]at e;have:=jg (e j _ hx);dsimp only at this;rw[e1,e2]at this;exact absurd this h2
   rw[this];rfl
  refine go ?_;refine bi (j+1) (by omega) ⟨by omega,λi' hi' x hx'=>?_⟩;by_cases e:i'=j
  ·subst e;rw[hx]at hx';cases hx';rw[e1,e2];exact jo.1 h2
  ·exact hall i' (by omega) x hx'
 have iM:j=t.length:=by omega
 subst iM;refine go ?_;refine aj () (hv:=?_) (hp:=trivial);have:nC (gu k) t=true:=by
  unfold nC;rw[qw];exact λi x hx=>fQ (hall i (aW.1 hx).1 x hx)
 rw[this];rfl
theorem Lr(set i:Nat):set>>>i&&&1=(set.testBit i).toNat:=by
 rw[Nat.and_one_is_mod,Rt,Nat.toNat_testBit]
theorem Ls{a b:Bool}:((a.toNat:Nat):Int)=((b.toNat:Nat):Int)↔a=b:=by cases a<;>cases b<;>decide
theorem alq{set other:Nat}(hs:r.set=(set:Int)/\set<9223372036854775808)(ho:r.other=(other:Int)/\other<9223372036854775808)(ht:dB m t)(hl:m<=60):BQ Tryz.prog (.func 134) k s t r vh vs vr vc vu gh gc vn vl sc st v1 v2 (qp set other t):=by
 have htl:=ht.len;obtain⟨hs1,hs2⟩:=hs;obtain⟨ho1,ho2⟩:=ho;obtain⟨rn,ro,rk,rf,rns,ros,alf,alg,rop,rnn,rby,rcl⟩:=r;dsimp only at hs1 ho1;subst hs1 ho1;refine aK _ (aM 134) λB w0=>?_;refine bY (E:=ae) (v:=st) (xs:=t) (by simp) λuY ct et=>?_;subst et;refine go ?_;intro b2 b3;refine aZ (dH (b:=b2)) (h:=?_);refine aZ (dH (b:=b3)) (h:=?_);refine go ?_;refine bQ (λj:Nat=>t.length - j) (λj=>[(11,.int .i64 (j:Int))]) (λ_=>[]) (λ_=>[]) (λj=>j<=t.length/\∀i',i'<j->∀x,t[i']? =some x->set.testBit i'=set.testBit x.toNat/\other.testBit i'=other.testBit x.toNat) 0 ⟨dK _,λi' h=>absurd h (GR _)⟩ (body:=?_);rintro j ⟨hj,hall⟩;refine go ?_;refine aJ rfl (λh1=>?_) (λh1=>?_)
 ·refine go ?_;intro _ _ x hx;have nY:=ht.dZ x (aR hx);obtain⟨i,rfl⟩:=eO nY.1;have hno:¬(set.testBit j=set.testBit i/\other.testBit j=other.testBit i)->qp set other t=false:=λh=>by
   cases e:qp set other t with
   |false=>rfl
   |true=>
    unfold qp at e;rw[qw]at e;have:=e j _ hx;dsimp only at this;rw[eX,eU,kL,kL]at this;exact absurd this h
  refine go ?_;refine(fF rfl rfl (FK (a:=set) (b:=j) rfl rfl (by omega))).h ?_;refine(fF rfl rfl (FL (a:=set>>>j) (b:=1) rfl rfl (Es (LY _ _) hs2) (by omega))).h ?_;rw[Lr set j];refine go ?_;refine(fF rfl rfl (FK (a:=set) (b:=i) rfl rfl (by omega))).h ?_;refine(fF rfl rfl (FL (a:=set>>>i) (b:=1) rfl rfl (Es (LY _ _) hs2) (by omega))).h ?_;rw[Lr set i];refine go ?_;refine gG (λh2=>?_) (λh2=>?_)
  rotate_left
  ·refine go ?_;refine aj () (hv:=?_) (hp:=trivial);rw[hno (λq=>h2 (Ls.2 q.1))];rfl
  have h2:=Ls.1 (jo.1 h2);refine go ?_;refine(fF rfl rfl (FK (a:=other) (b:=j) rfl rfl (by omega))).h ?_;refine(fF rfl rfl (FL (a:=other>>>j) (b:=1) rfl rfl (Es (LY _ _) ho2) (by omega))).h ?_;rw[Lr other j];refine go ?_;refine(fF rfl rfl (FK (a:=other) (b:=i) rfl rfl (by omega))).h ?_;refine(fF rfl rfl (FL (a:=other>>>i) (b:=1) rfl rfl (Es (LY _ _) ho2) (by omega))).h ?_;rw[Lr other i];refine go ?_;refine aJ rfl (λh3=>?_) (λh3=>?_)
  ·refine go ?_;refine aj () (hv:=?_) (hp:=trivial);rw[hno (λq=>h3 (Ls.2 q.2))];rfl
  have h3:=Ls.1 (jo.1 h3);refine go ?_;refine bi (j+1) (by omega) ⟨by omega,λi' hi' x hx'=>?_⟩;by_cases e:i'=j
  ·subst e;rw[hx]at hx';cases hx';rw[eX];exact⟨h2,h3⟩
  ·exact hall i' (by omega) x hx'
 have iM:j=t.length:=by omega
 subst iM;refine go ?_;refine aj () (hv:=?_) (hp:=trivial);have:qp set other t=true:=by
  unfold qp;rw[qw];intro i x hx;have:=hall i (aW.1 hx).1 x hx;dsimp only;rw[this.1,this.2];simp
 rw[this];rfl
theorem alr{n:Nat}(hN:sD n k.aA)(hs:dB n s)(hl:n<=1000000)(hll:∀l∈k.aA,l.length<=1000000):BQ Tryz.prog (.func 190) k s t r vh vs vr vc vu gh gc vn vl sc st v1 v2 (kZ k.aA s):=by
 have hsl:=hs.len;have hnl:=hN.1;refine aK _ (aM 190) λB w0=>?_;refine bY (E:=ae) (v:=sc) (xs:=s) (by simp) λQO QR esc=>?_;subst esc;refine bY (E:=aB ae) (v:=vn) (xs:=k.aA) (by simp) λan cn en=>?_;subst en;refine go ?_;intro b2 b3;refine aZ (dH (b:=b2)) (h:=?_);refine go ?_;refine bQ (λj:Nat=>k.aA.length - j) (λj=>[(13,.int .i64 (j:Int))]) (λ_=>[]) (λ_=>[]) (λj=>j<=k.aA.length/\∀i',i'<j->∀l,k.aA[i']? =some l->∀b∈l,aP s b∈k.aA.getD (aP s (i':Int)).toNat []) 0 ⟨dK _,λi' h=>absurd h (GR _)⟩ (body:=?_);rintro j ⟨hj,hall⟩;refine go ?_;refine aJ rfl (λh1=>?_) (λh1=>?_)
 ·refine go ?_;refine bZ (aB ae) (xs:=k.aA) (next:=λ_ _ l (uA:Value) hl2=>?_);have hlm:=aR hl2;have hlr:=hN.2 l hlm;have hlen:=hll l hlm;refine bY (E:=ae) (v:=uA) (xs:=l) (by simp) λal cl el=>?_;subst el;refine go ?_;refine bQ (λi:Nat=>l.length - i) (λi=>[(20,.int .i64 (i:Int))]) (λ_=>[]) (λ_=>[]) (λi=>i<=l.length/\∀b∈l.take i,aP s b∈k.aA.getD (aP s (j:Int)).toNat []) 0 ⟨dK _,by simp⟩ (body:=?_);rintro i ⟨hi,rz⟩;refine go ?_;refine aJ rfl (λh2=>?_) (λh2=>?_)
  ·refine go ?_;intro _ _ b hb;have hbr:=hlr b (aR hb);obtain⟨bn,rfl⟩:=eO hbr.1;refine go ?_;refine BP 17 ?_;refine go ?_;intro _ _ u hu;have hug:=jJ hu;have hur:=hs.dZ u (aR hu);obtain⟨un,rfl⟩:=eO hur.1;refine go ?_;refine bZ (aB ae) (xs:=k.aA) (k:=un) (next:=λ_ _ l2 (Lt:Value) hl3=>?_);have anw:=hll l2 (aR hl3);refine go ?_;refine BP 17 ?_;refine go ?_;intro _ _ z hz;have hzg:=jJ hz;refine go ?_;refine ak (Py (xs:=l2) (z:=z) (by omega)) (next:=λ_ _=>?_);have hd:k.aA.getD (aP s (j:Int)).toNat []=l2:=by rw[hug,eX];exact fC hl3
   refine go ?_;refine pz rfl (λh3=>?_) (λh3=>?_)
   ·refine go ?_;refine aj () (hv:=?_) (hp:=trivial);have:kZ k.aA s=false:=by
     cases e:kZ k.aA s with
     |false=>rfl
     |true=>
      unfold kZ at e;rw[qw]at e;have:=e j l hl2;rw[iV]at this;have:=jg (this _ (aR hb));dsimp only at this;rw[hd,hzg]at this;exact absurd this h3
    rw[this];rfl
   refine go ?_;refine bi (i+1) (by show l.length - (i+1)<l.length - i;omega) ⟨by omega,λb hb'=>?_⟩;rw[gZ hb]at hb';rcases gH.1 hb' with hb'|hb'
   ·exact rz b hb'
   ·rw[bO.1 hb',hd,hzg];exact h3
  have hie:i=l.length:=by omega
  subst hie;rw[eH]at rz;refine go ?_;refine bi (j+1) (by show k.aA.length - (j+1)<k.aA.length - j;omega) ⟨by omega,λi' hi' l' hl'=>?_⟩;by_cases e:i'=j
  ·subst e;rw[hl2]at hl';cases hl';exact rz
  ·exact hall i' (by omega) l' hl'
 have iM:j=k.aA.length:=by omega
 subst iM;refine go ?_;refine aj () (hv:=?_) (hp:=trivial);have:kZ k.aA s=true:=by
  unfold kZ;rw[qw];intro i l hl';rw[iV];exact λb hb=>fQ (hall i (aW.1 hl').1 l hl' b hb)
 rw[this];rfl
end
abbrev fv(f:FuncId):Value:=.func (.func f) ⟨[]⟩ ⟨[]⟩
structure Lu where
 b1:Nat
 b2:Nat
 b3:Nat
 b4:Nat
 b5:Nat
 b6:Nat
 b7:Nat
 b8:Nat
 b9:Nat
 b10:Nat
abbrev QT(y:Lu):List Value:=[.slice none 0 0,.slice (some ⟨y.b1,0,some 0⟩) 1 1,.slice (some ⟨y.b2,0,some 0⟩) 1 1,.slice (some ⟨y.b3,0,some 0⟩) 2 2,.slice (some ⟨y.b4,0,some 0⟩) 2 2,.slice (some ⟨y.b5,0,some 0⟩) 1 1,.slice (some ⟨y.b6,0,some 0⟩) 1 1,.slice (some ⟨y.b7,0,some 0⟩) 2 2,.slice (some ⟨y.b8,0,some 0⟩) 1 1,.slice (some ⟨y.b9,0,some 0⟩) 1 1,.slice (some ⟨y.b10,0,some 0⟩) 1 1,.slice none 0 0]
abbrev wS(y:Lu):List aD:=[bz y.b1 0 [fv 186],bz y.b2 0 [fv 186],bz y.b3 0 [fv 186,fv 187],bz y.b4 0 [fv 188,fv 187],bz y.b5 0 [fv 189],bz y.b6 0 [fv 190],bz y.b7 0 [fv 190,fv 187],bz y.b8 0 [fv 190],bz y.b9 0 [fv 190],bz y.b10 0 [fv 190]]
theorem alu:aQ Tryz.prog (.func 132) [] [] [] [] (λy:Lu=>.agg ⟨QT y⟩) (λ_=>[]) (λy=>wS y) (λ_=>True):=by
 refine aK _ (aM 132) λB w0=>?_;refine go ?_;intro b0 b1 b2 b3 b4 b5 b6 b7 b8 b9 b10;refine go ?_;refine aZ (dH (b:=b1)) (h:=?_);refine aZ (dH (b:=b2)) (h:=?_);refine aZ (dH (b:=b3)) (h:=?_);refine aZ (dH (b:=b4)) (h:=?_);refine aZ (dH (b:=b5)) (h:=?_);refine aZ (dH (b:=b6)) (h:=?_);refine aZ (dH (b:=b7)) (h:=?_);refine aZ (dH (b:=b8)) (h:=?_);refine aZ (dH (b:=b9)) (h:=?_);refine aZ (dH (b:=b10)) (h:=?_);exact aj ⟨b1,b2,b3,b4,b5,b6,b7,b8,b9,b10⟩ (hv:=rfl) (hp:=trivial)
section
variable {k:aU} {s t:List Int} {r:bV} {vh vs vr vc vu gh gc vn vl sc st v1 v2:Value} {bc br:Nat}
abbrev vR(k:aU)(s t:List Int)(r:bV)(vh vs vr vc vu gh gc vn vl sc st v1 v2:Value)(bc br:Nat):List aD:=bz bc 0 (QM k vh vs vr vc vu gh gc vn vl sc st)::bz br 0 (jG r v1 v2)::Ll k s t vs vn vl sc st
theorem Gy{f:FuncId}{c:Bool}(h:BQ Tryz.prog (.func f) k s t r vh vs vr vc vu gh gc vn vl sc st v1 v2 c):aQ Tryz.prog (.func 133) [fv f] [ptr' bc,ptr' br] [] (vR k s t r vh vs vr vc vu gh gc vn vl sc st v1 v2 bc br) (λ_:Unit=>.bool (!c)) (λ_=>[]) (λ_=>[]) (λ_=>True):=by
 refine aK _ (aM 133) λB w0=>?_;refine go ?_;refine ak h (next:=λ_ _=>?_);refine go ?_;exact aj () (hv:=rfl) (hp:=trivial)
theorem alv{b:Nat}{fs:List Value}{p:Nat->Bool}{fn:Fn}{first cap:List Value}{F1:List aD}(hl:fs.length<=100)(hp:∀i f,fs[i]? =some f->aQ Tryz.prog fn (first++[f]) cap [] F1 (λ_:Unit=>.bool (p i)) (λ_=>[]) (λ_=>[]) (λ_=>True)):
 aQ Tryz.prog (.func 191) [.slice (some ⟨b,0,some 0⟩) fs.length fs.length,.func fn ⟨first⟩ ⟨cap⟩] [] [] (bz b 0 fs::F1) (λx:Int=>.int .i64 x) (λ_=>[]) (λ_=>[]) (λx=>0<=x↔∃i,i<fs.length/\p i=true):=by
 refine aK _ (aM 191) λB w0=>?_;refine go ?_;refine bQ (λj:Nat=>fs.length - j) (λj=>[(8,.int .i64 (j:Int))]) (λ_=>[]) (λ_=>[]) (λj=>j<=fs.length/\∀i,i<j->p i=false) 0 ⟨dK _,λi h=>absurd h (GR _)⟩ (body:=?_);rintro j ⟨hj,hall⟩;refine go ?_;refine aJ rfl (λh1=>?_) (λh1=>?_)
 ·have hf:fs[j]? =some fs[j]:=bC (by omega);generalize fs[j]=f at hf;refine go ?_;refine(I9 (b:=b) (o:=0) (j:=j*1) (cs:=fs) (v:=f) rfl rfl rfl (bR ..) (by rw[qK,pV];exact hf)).h ?_;refine go ?_;refine ak (hp j f hf) (next:=λ_ _=>?_);refine go ?_;refine wz rfl (λh2=>?_) (λh2=>?_)
  ·refine go ?_;exact aj (j:Int) (hv:=rfl) (hp:=⟨λ_=>⟨j,by omega,h2⟩,λ_=>by omega⟩)
  refine go ?_;refine bi (j+1) (by omega) ⟨by omega,λi hi=>?_⟩;by_cases e:i=j
  ·subst e;exact h2
  ·exact hall i (by omega)
 refine go ?_;exact aj (-1) (hv:=rfl) (hp:=⟨λh=>by omega,λ⟨i,hi,h⟩=>by rw[hall i (by omega)]at h;cases h⟩)
theorem Zb{b:Nat}{fs:List Value}{p:Nat->Bool}{fn:Fn}{first cap:List Value}{F1:List aD}(hl:fs.length<=100)(hp:∀i f,fs[i]? =some f->aQ Tryz.prog fn (first++[f]) cap [] F1 (λ_:Unit=>.bool (p i)) (λ_=>[]) (λ_=>[]) (λ_=>True)):
 aQ Tryz.prog (.func 135) [.slice (some ⟨b,0,some 0⟩) fs.length fs.length,.func fn ⟨first⟩ ⟨cap⟩] [] [] (bz b 0 fs::F1) (λc:Bool=>.bool c) (λ_=>[]) (λ_=>[]) (λc=>c=true↔∃i,i<fs.length/\p i=true):=by
 refine aK _ (aM 135) λB w0=>?_;refine go ?_;refine ak (alv (b:=b) hl hp) (next:=λx hx=>?_);refine go ?_;refine aj (decide (0<=x)) (hv:=rfl) (hp:=?_);rw[kL];exact hx
theorem alx{fn:Fn}{first cap:List Value}{F1:List aD}:aQ Tryz.prog (.func 135) [.slice none 0 0,.func fn ⟨first⟩ ⟨cap⟩] [] [] F1 (λc:Bool=>.bool c) (λ_=>[]) (λ_=>[]) (λc=>c=false):=by
 have h0:aQ Tryz.prog (.func 191) [.slice none 0 0,.func fn ⟨first⟩ ⟨cap⟩] [] [] F1 (λ_:Unit=>.int .i64 (-1)) (λ_=>[]) (λ_=>[]) (λ_=>True):=by
  refine aK _ (aM 191) λB w0=>?_;refine go ?_;refine oJ ?_;refine go ?_;exact aj () (hv:=rfl) (hp:=trivial)
 refine aK _ (aM 135) λB w0=>?_;refine go ?_;refine ak h0 (next:=λ_ _=>?_);refine go ?_;exact aj false (hv:=rfl) (hp:=rfl)
structure Zc(k:aU)(s t:List Int)(r:bV):Prop where
 ps:dB k.grid.cells.length s
 pt:dB k.decl.symbols.length t
 n1:k.grid.cells.length<=256
 m1:k.decl.symbols.length<=16
 aA:sD k.grid.cells.length k.aA
 nbl:∀l∈k.aA,l.length<=1000000
 kind:1<=r.kind/\r.kind<=11
 QU:Gx k.grid.cells.length k s r (k.lists.getD r.family.toNat [])
 st:r.set=((r.set.toNat:Nat):Int)/\r.set.toNat<9223372036854775808
 ot:r.other=((r.other.toNat:Nat):Int)/\r.other.toNat<9223372036854775808
theorem Zd(H:Zc k s t r)(y:Lu):∃v,(QT y)[r.kind.toNat]? =some v/\aQ Tryz.prog (.func 135) [v,.func (.func 133) ⟨[]⟩ ⟨[ptr' bc,ptr' br]⟩] [] [] (wS y++vR k s t r vh vs vr vc vu gh gc vn vl sc st v1 v2 bc br) (λc:Bool=>.bool c) (λ_=>[]) (λ_=>[]) (λc=>c=true↔lc k s t r=false):=by
 have hF:=Gy (bc:=bc) (br:=br) (alm (t:=t) (vh:=vh) (vs:=vs) (vr:=vr) (vc:=vc) (vu:=vu) (gh:=gh) (gc:=gc) (vn:=vn) (vl:=vl) (sc:=sc) (st:=st) (v1:=v1) (v2:=v2) H.QU);have hO:=Gy (bc:=bc) (br:=br) (aln (t:=t) (vh:=vh) (vs:=vs) (vr:=vr) (vc:=vc) (vu:=vu) (gh:=gh) (gc:=gc) (vn:=vn) (vl:=vl) (sc:=sc) (st:=st) (v1:=v1) (v2:=v2) H.QU);have hL:=Gy (bc:=bc) (br:=br) (alo (t:=t) (vh:=vh) (vs:=vs) (vr:=vr) (vc:=vc) (vu:=vu) (gh:=gh) (gc:=gc) (vn:=vn) (vl:=vl) (sc:=sc) (st:=st) (v1:=v1) (v2:=v2) H.QU);have hV:=Gy (bc:=bc) (br:=br) (alp (s:=s) (r:=r) (vh:=vh) (vs:=vs) (vr:=vr) (vc:=vc) (vu:=vu) (gh:=gh) (gc:=gc) (vn:=vn) (vl:=vl) (sc:=sc) (st:=st) (v1:=v1) (v2:=v2) rfl H.pt (by have:=H.m1;omega));have hB:=Gy (bc:=bc) (br:=br) (alr (t:=t) (r:=r) (vh:=vh) (vs:=vs) (vr:=vr) (vc:=vc) (vu:=vu) (gh:=gh) (gc:=gc) (vn:=vn) (vl:=vl) (sc:=sc) (st:=st) (v1:=v1) (v2:=v2) H.aA H.ps (by have:=H.n1;omega) H.nbl);have one:∀(b:Nat) (f:FuncId) (c:Bool),aQ Tryz.prog (.func 133) [fv f] [ptr' bc,ptr' br] [] (vR k s t r vh vs vr vc vu gh gc vn vl sc st v1 v2 bc br) (λ_:Unit=>.bool (!c)) (λ_=>[]) (λ_=>[]) (λ_=>True)->bz b 0 [fv f]∈wS y->lc k s t r=c->
  aQ Tryz.prog (.func 135) [.slice (some ⟨b,0,some 0⟩) 1 1,.func (.func 133) ⟨[]⟩ ⟨[ptr' bc,ptr' br]⟩] [] [] (wS y++vR k s t r vh vs vr vc vu gh gc vn vl sc st v1 v2 bc br) (λc:Bool=>.bool c) (λ_=>[]) (λ_=>[]) (λc=>c=true↔lc k s t r=false):=λb f c h hm hc=>by
  have h1:=Zb (b:=b) (fs:=[fv f]) (p:=λ_=>!c) (fn:=.func 133) (first:=[]) (cap:=[ptr' bc,ptr' br]) (by simp) (λi g hg=>by
   match i,hg with
   |0,hg=>cases hg;exact h
   |i+1,hg=>simp at hg)
  refine((h1.facts (F2:=wS y++vR k s t r vh vs vr vc vu gh gc vn vl sc st v1 v2 bc br) (λf hf=>?_))).weak λc' hc'=>?_
  ·rcases bN.1 hf with rfl|hf
   ·exact kK _ hm
   ·exact om _ hf
  ·rw[hc',hc];constructor
   ·rintro⟨_,_,e⟩;simpa using e
   ·intro e;exact⟨0,by simp,by rw[e];rfl⟩
 have two:∀(b:Nat) (f g:FuncId) (c d:Bool),aQ Tryz.prog (.func 133) [fv f] [ptr' bc,ptr' br] [] (vR k s t r vh vs vr vc vu gh gc vn vl sc st v1 v2 bc br) (λ_:Unit=>.bool (!c)) (λ_=>[]) (λ_=>[]) (λ_=>True)->aQ Tryz.prog (.func 133) [fv g] [ptr' bc,ptr' br] [] (vR k s t r vh vs vr vc vu gh gc vn vl sc st v1 v2 bc br) (λ_:Unit=>.bool (!d)) (λ_=>[]) (λ_=>[]) (λ_=>True)->bz b 0 [fv f,fv g]∈wS y->lc k s t r=(c&&d)->
  aQ Tryz.prog (.func 135) [.slice (some ⟨b,0,some 0⟩) 2 2,.func (.func 133) ⟨[]⟩ ⟨[ptr' bc,ptr' br]⟩] [] [] (wS y++vR k s t r vh vs vr vc vu gh gc vn vl sc st v1 v2 bc br) (λc:Bool=>.bool c) (λ_=>[]) (λ_=>[]) (λc=>c=true↔lc k s t r=false):=λb f g c d h h2 hm hc=>by
  have h1:=Zb (b:=b) (fs:=[fv f,fv g]) (p:=λi=>if i=0 then !c else !d) (fn:=.func 133) (first:=[]) (cap:=[ptr' bc,ptr' br]) (by simp) (λi g hg=>by
   match i,hg with
   |0,hg=>cases hg;exact h
   |1,hg=>cases hg;exact h2
   |i+2,hg=>simp at hg)
  refine((h1.facts (F2:=wS y++vR k s t r vh vs vr vc vu gh gc vn vl sc st v1 v2 bc br) (λf hf=>?_))).weak λc' hc'=>?_
  ·rcases bN.1 hf with rfl|hf
   ·exact kK _ hm
   ·exact om _ hf
  ·rw[hc',hc];constructor
   ·rintro⟨i,hi,e⟩;by_cases e0:i=0
    ·rw[if_pos e0]at e;cases c<;>simp_all
    ·rw[if_neg e0]at e;cases d<;>simp_all
   ·intro e;cases hcc:c with
    |false=>exact⟨0,by simp,rfl⟩
    |true=>
     rw[hcc,LD]at e;exact⟨1,by simp,by rw[e];rfl⟩
 have hk:=H.kind;obtain⟨kn,hkn⟩:=eO (by omega:0<=r.kind);have QG:kn=1\/kn=2\/kn=3\/kn=4\/kn=5\/kn=6\/kn=7\/kn=8\/kn=9\/kn=10\/kn=11:=by omega
 rcases QG with rfl|rfl|rfl|rfl|rfl|rfl|rfl|rfl|rfl|rfl|rfl
 ·exact⟨_,by rw[hkn];rfl,one y.b1 _ _ hF (by simp) (by unfold lc;rw[if_pos (.inl hkn)])⟩
 ·exact⟨_,by rw[hkn];rfl,one y.b2 _ _ hF (by simp) (by unfold lc;rw[if_pos (.inr hkn)])⟩
 ·exact⟨_,by rw[hkn];rfl,two y.b3 _ _ _ _ hF hV (by simp) (by unfold lc;rw[if_neg (by omega),if_pos (by omega)])⟩
 ·exact⟨_,by rw[hkn];rfl,two y.b4 _ _ _ _ hO hV (by simp) (by unfold lc;rw[if_neg (by omega),if_neg (by omega),if_pos (by omega)])⟩
 ·exact⟨_,by rw[hkn];rfl,one y.b5 _ _ hL (by simp) (by unfold lc;rw[if_neg (by omega),if_neg (by omega),if_neg (by omega),if_pos (by omega)])⟩
 ·exact⟨_,by rw[hkn];rfl,one y.b6 _ _ hB (by simp) (by unfold lc;rw[if_neg (by omega),if_neg (by omega),if_neg (by omega),if_neg (by omega),if_neg (by omega),if_pos (by omega)])⟩
 ·exact⟨_,by rw[hkn];rfl,two y.b7 _ _ _ _ hB hV (by simp) (by unfold lc;rw[if_neg (by omega),if_neg (by omega),if_neg (by omega),if_neg (by omega),if_pos (by omega)])⟩
 ·exact⟨_,by rw[hkn];rfl,one y.b8 _ _ hB (by simp) (by unfold lc;rw[if_neg (by omega),if_neg (by omega),if_neg (by omega),if_neg (by omega),if_neg (by omega),if_pos (by omega)])⟩
 ·exact⟨_,by rw[hkn];rfl,one y.b9 _ _ hB (by simp) (by unfold lc;rw[if_neg (by omega),if_neg (by omega),if_neg (by omega),if_neg (by omega),if_neg (by omega),if_pos (by omega)])⟩
 ·exact⟨_,by rw[hkn];rfl,one y.b10 _ _ hB (by simp) (by unfold lc;rw[if_neg (by omega),if_neg (by omega),if_neg (by omega),if_neg (by omega),if_neg (by omega),if_pos (by omega)])⟩
 ·refine⟨.slice none 0 0,by rw[hkn];rfl,?_⟩;refine(alx (F1:=wS y++vR k s t r vh vs vr vc vu gh gc vn vl sc st v1 v2 bc br)).weak λc' hc'=>?_;have:lc k s t r=true:=by unfold lc;rw[if_neg (by omega),if_neg (by omega),if_neg (by omega),if_neg (by omega),if_neg (by omega),if_neg (by omega)]
  rw[hc',this];simp
end
theorem bF.set{k:aU}(h:bF k){r:bV}(hr:r∈k.decl.rules):(r.set=((r.set.toNat:Nat):Int)/\r.set.toNat<9223372036854775808)/\(r.other=((r.other.toNat:Nat):Int)/\r.other.toNat<9223372036854775808):=by
 obtain⟨q,hq,hre⟩:=h.oO hr;have hro:=h.b.rs.oO q hq;have hsl:=h.typ.lim.s1;have Gq:r.set=((jX (gY k.decl) q.names:Nat):Int):=by rw[hre];rfl
 have Gr:r.other=((jX (gY k.decl) q.others:Nat):Int):=by rw[hre];rfl
 have hsn:(gY k.decl).length<=16:=by unfold gY;rw[bJ];exact hsl
 have hl1:=K7 hsn q.names hro.names;have hl2:=K7 hsn q.others hro.others;refine⟨⟨by rw[Gq];omega,by rw[Gq];omega⟩,⟨by rw[Gr];omega,by rw[Gr];omega⟩⟩
theorem bF.pO{k:aU}(h:bF k):k.grid.cells.length<=256:=by
 have:=h.bM.len;rw[h.grid];exact this
theorem bF.npos{k:aU}(h:bF k):0<k.grid.cells.length:=by
 rw[h.grid];exact agF h.bM
theorem bF.alz{k:aU}(h:bF k){s t:List Int}(hs:dB k.grid.cells.length s)(ht:dB k.decl.symbols.length t){r:bV}(hr:r∈k.decl.rules):Zc k s t r:=by
 have hin:=(h.inr hr).fP;have hL:k.lists[r.family.toNat]? =some (k.lists[r.family.toNat]'(by omega)):=bC _;have jb:=h.Lf hL;rw[rE hin.1]at jb;have Gz:∀r∈k.decl.regions,yj (bE k.decl) r.lists:=λr hr=>(h.typ.BH r hr).1.2;have GA:=Ww h.bM Gz;have hlin:=O0 h.bM Gz;rw[<- h.lists]at GA hlin;have hn:=h.pO;refine⟨hs,ht,h.pO,h.typ.lim.s1,h.Ac,λl hl=>?_,h.kinds hr,⟨hin.1,?_,?_,hs,h.npos,by omega,?_,?_⟩,(h.set hr).1,(h.set hr).2⟩
 ·rw[h.aA]at hl;have:=J6 l hl;omega
 ·rw[fC hL];exact hL
 ·rw[fC hL];exact jb
 ·rw[fC hL];have:=GA _ (aR hL);omega
 ·rw[fC hL];intro l hl;have:=(hlin _ (aR hL) l hl).1;omega
theorem alA{k:aU}{s t:List Int}{vh vs vr vc vu gh gc vn vl sc st:Value}(hK:bF k)(hs:s.length<9223372036854775808)(ht:t.length<9223372036854775808):
 aQ Tryz.prog (.func 57) [.agg ⟨kG k vh vs vr vc vu gh gc vn vl⟩,.agg ⟨[sc,st]⟩] [] [] (ah ae sc s::ah ae st t::je k vh vs vr vc vu gh gc vn vl []) (λb:Bool=>.bool b) (λ_=>[]) (λ_=>[]) (λb=>b=true↔gB k s t):=by
 have hn:=hK.pO;have hm:=hK.typ.lim.s1;have BB:=hK.typ.lim.u;refine aK _ (aM 57) λB w0=>?_;dsimp only[je];refine bY (E:=ae) (v:=gc) (xs:=k.grid.cells) (by simp) λag cg eg=>?_;subst eg;refine bY (E:=jF) (v:=vs) (xs:=k.decl.symbols) (by simp) λzY cs1 es1=>?_;subst es1;refine bY (E:=bT) (v:=vu) (xs:=k.decl.rules) (by simp) λau cu eu=>?_;subst eu;refine go ?_;intro b2 b3;refine aZ (dH (b:=b2)) (h:=?_);refine aZ (dH (b:=b3)) (h:=?_);refine go ?_;refine ak (YI (xs:=s) (n:=k.grid.cells.length) hn hs) (next:=λe1 he1=>?_);refine go ?_;refine gG (λh1=>?_) (λh1=>?_)
 rotate_left
 ·refine go ?_;exact aj false (hv:=rfl) (hp:=⟨(λh=>by cases h),λh=>absurd (he1.2 h.pc) h1⟩)
 have hps:=he1.1 (jo.1 h1);refine go ?_;refine ak (YI (xs:=t) (n:=k.decl.symbols.length) (by omega) ht) (next:=λe2 he2=>?_);refine go ?_;refine aJ rfl (λh2=>?_) (λh2=>?_)
 ·refine go ?_;exact aj false (hv:=rfl) (hp:=⟨(λh=>by cases h),λh=>absurd (he2.2 h.ps) h2⟩)
 have hpt:=he2.1 (jo.1 h2);refine go ?_;intro b5 b6;refine ak alu (next:=λy _=>?_);refine go ?_;refine aZ (dH (b:=b5)) (h:=?_);refine aZ (dH (b:=b6)) (h:=?_);refine bQ (λj:Nat=>k.decl.rules.length - j) (λj=>[(36,.int .i64 (j:Int))]) (λ_=>[]) (λ_=>[]) (λj=>j<=k.decl.rules.length/\∀r∈k.decl.rules.take j,keepR k s t r=true) 0 ⟨dK _,by simp⟩ (body:=?_);rintro j ⟨hj,hall⟩;refine go ?_;refine aJ rfl (λh3=>?_) (λh3=>?_)
 ·refine go ?_;refine bZ bT (xs:=k.decl.rules) (next:=λ_ _ r (w:Value×Value) hr=>?_);have hrm:=aR hr;have H:=hK.alz hps hpt hrm;have hkd:=H.kind;have hno:keepR k s t r=false->∀b:Bool,b=false->(b=true↔gB k s t):=λh b hb=>⟨(λe=>by rw[hb]at e;cases e),λq=>by have:=q.oO r hrm;rw[h]at this;cases this⟩
  obtain⟨vk,hvk,hcon⟩:=Zd (bc:=b5) (br:=0) (vh:=vh) (vs:=.slice zY k.decl.symbols.length cs1) (vr:=vr) (vc:=vc) (vu:=.slice au k.decl.rules.length cu) (gh:=gh) (gc:=.slice ag k.grid.cells.length cg) (vn:=vn) (vl:=vl) (sc:=sc) (st:=st) (v1:=w.1) (v2:=w.2) H y;clear hcon;refine go ?_;intro b8;obtain⟨Ze,Zf,hcon⟩:=Zd (bc:=b5) (br:=b8) (vh:=vh) (vs:=.slice zY k.decl.symbols.length cs1) (vr:=vr) (vc:=vc) (vu:=.slice au k.decl.rules.length cu) (gh:=gh) (gc:=.slice ag k.grid.cells.length cg) (vn:=vn) (vl:=vl) (sc:=sc) (st:=st) (v1:=w.1) (v2:=w.2) H y;obtain rfl:Ze=vk:=by rw[hvk]at Zf;exact(Option.some.inj Zf).symm
  refine go ?_;refine aZ (dH (b:=b8)) (h:=?_);refine go ?_;refine ak (alq (k:=k) (s:=s) (r:=r) (set:=r.set.toNat) (other:=r.other.toNat) (vh:=vh) (vs:=.slice zY k.decl.symbols.length cs1) (vr:=vr) (vc:=vc) (vu:=.slice au k.decl.rules.length cu) (gh:=gh) (gc:=.slice ag k.grid.cells.length cg) (vn:=vn) (vl:=vl) (sc:=sc) (st:=st) (v1:=w.1) (v2:=w.2) H.st H.ot hpt (by omega)) (next:=λ_ _=>?_);cases hset:qp r.set.toNat r.other.toNat t with
  |false=>
   refine go ?_;exact aj false (hv:=rfl) (hp:=hno (by unfold keepR;rw[hset];rfl) _ rfl)
  |true=>
  obtain⟨kn,hkn⟩:=eO (by omega:0<=r.kind);rw[hkn,eX]at hvk;rw[hkn];refine go ?_;refine(I9 (b:=b6) (o:=0) (j:=kn*1) (cs:=QT y) (v:=Ze) rfl rfl rfl (by repeat (first|exact bR .. |apply bU)) (by rw[qK,pV];exact hvk)).h ?_;rw[<- hkn];refine go ?_;dsimp only[wS,vR,Ll,List.cons_append,List.nil_append]at hcon;refine ak hcon (hF:=by repeat (first|exact Sub.nil|(apply Sub.cons;(focus (repeat (first|exact bR .. |apply bU)))))) (next:=λc hc=>?_);refine go ?_;cases c with
  |true=>
   refine go ?_;exact aj false (hv:=rfl) (hp:=hno (by unfold keepR;rw[hc.1 rfl,Bool.and_false]) _ rfl)
  |false=>
  have hcd:lc k s t r=true:=by
   cases e:lc k s t r with
   |true=>rfl
   |false=>exact absurd (hc.2 e) (by simp)
  refine go ?_;refine bi (j+1) (by show k.decl.rules.length - (j+1)<k.decl.rules.length - j;omega) ⟨by omega,λx hx=>?_⟩;rw[gZ hr]at hx;rcases gH.1 hx with hx|hx
  ·exact hall x hx
  ·rw[bO.1 hx];unfold keepR;rw[hset,hcd];rfl
 have iM:j=k.decl.rules.length:=by omega
 subst iM;rw[eH]at hall;refine go ?_;exact aj true (hv:=rfl) (hp:=⟨λ_=>⟨hps,hpt,hall⟩,λ_=>rfl⟩)
structure KpP(k:aU)(s t:List Int)(y:Bool×Int):Prop where
 nk:¬bF k->y=(false,180)
 ok:bF k->y.2=0/\(y.1=true↔gB k s t)
theorem alC{k:aU}{s t:List Int}{vh vs vr vc vu gh gc vn vl sc st:Value}(hS:mR k)(hs:s.length<9223372036854775808)(ht:t.length<9223372036854775808):
 aQ Tryz.prog (.func 31) [.agg ⟨kG k vh vs vr vc vu gh gc vn vl⟩,.agg ⟨[sc,st]⟩] [] [] (ah ae sc s::ah ae st t::je k vh vs vr vc vu gh gc vn vl []) (λy:Bool×Int=>.tuple ⟨[.bool y.1,.int .i64 y.2]⟩) (λ_=>[]) (λ_=>[]) (KpP k s t):=by
 refine aK _ (aM 31) λB w0=>?_;dsimp only[je];refine go ?_;intro b2 b3;refine go ?_;refine ak (KZ (k:=k) (vh:=vh) (vs:=vs) (vr:=vr) (vc:=vc) (vu:=vu) (gh:=gh) (gc:=gc) (vn:=vn) (vl:=vl) hS) (next:=λb hb=>?_);cases b with
 |false=>
  have hno:¬bF k:=λh=>by have:=hb.2 h;cases this
  dsimp only[cond];refine go ?_;exact aj (false,180) (hv:=rfl) (hp:=⟨λ_=>rfl,λh=>absurd h hno⟩)
 |true=>
 have hK:=hb.1 rfl;dsimp only[cond];refine go ?_;refine ak (alA (k:=k) (s:=s) (t:=t) (vh:=vh) (vs:=vs) (vr:=vr) (vc:=vc) (vu:=vu) (gh:=gh) (gc:=gc) (vn:=vn) (vl:=vl) (sc:=sc) (st:=st) hK hs ht) (next:=λc hc=>?_);refine go ?_;exact aj (c,0) (hv:=rfl) (hp:=⟨λh=>absurd hK h,λ_=>⟨rfl,hc⟩⟩)
structure alD(k:aU)(s t:List Int)(e:Int):Prop where
 nk:¬bF k->e=180
 ns:bF k->¬gB k s t->e=230
 ok:bF k->gB k s t->e=0
theorem Eg{k:aU}{s t:List Int}{vh vs vr vc vu gh gc vn vl sc st:Value}(hS:mR k)(hs:s.length<9223372036854775808)(ht:t.length<9223372036854775808):
 aQ Tryz.prog (.func 13) [.agg ⟨kG k vh vs vr vc vu gh gc vn vl⟩,.agg ⟨[sc,st]⟩] [] [] (ah ae sc s::ah ae st t::je k vh vs vr vc vu gh gc vn vl []) (λe:Int=>.int .i64 e) (λ_=>[]) (λ_=>[]) (alD k s t):=by
 refine aK _ (aM 13) λB w0=>?_;dsimp only[je];refine go ?_;intro b2 b3;refine go ?_;refine ak (KZ (k:=k) (vh:=vh) (vs:=vs) (vr:=vr) (vc:=vc) (vu:=vu) (gh:=gh) (gc:=gc) (vn:=vn) (vl:=vl) hS) (next:=λb hb=>?_);cases b with
 |false=>
  have hno:¬bF k:=λh=>by have:=hb.2 h;cases this
  dsimp only[cond];refine go ?_;exact aj 180 (hv:=rfl) (hp:=⟨λ_=>rfl,λh=>absurd h hno,λh=>absurd h hno⟩)
 |true=>
 have hK:=hb.1 rfl;dsimp only[cond];refine go ?_;refine ak (alC (k:=k) (s:=s) (t:=t) (vh:=vh) (vs:=vs) (vr:=vr) (vc:=vc) (vu:=vu) (gh:=gh) (gc:=gc) (vn:=vn) (vl:=vl) (sc:=sc) (st:=st) hS hs ht) (next:=λy hy=>?_);obtain⟨c,e⟩:=y;obtain⟨he,hc⟩:=hy.ok hK;dsimp only at he hc;subst he;refine go ?_;cases c with
 |false=>
  have hno:¬gB k s t:=λh=>by have:=hc.2 h;cases this
  refine go ?_;exact aj 230 (hv:=rfl) (hp:=⟨λh=>absurd hK h,λ_ _=>rfl,λ_ h=>absurd h hno⟩)
 |true=>
  refine go ?_;exact aj 0 (hv:=rfl) (hp:=⟨λh=>absurd hK h,λ_ h=>absurd (hc.1 rfl) h,λ_ _=>rfl⟩)
