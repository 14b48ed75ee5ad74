/-
  The laws PuzzlesSortSpec and PuzzlesSorted on the ideal machine.
-/
import Derived.Test.YtoohgkkmdnbnfaaGreatDoorLibEG
import Derived.Test.YtoohgkkmdnbnfaaGreatDoorSaneEG
set_option linter.all false
set_option maxRecDepth 10000
set_option maxHeartbeats 4000000
namespace Go.Proofs.YtoohgkkmdnbnfaaGreatDoor
open Go.Ideal Kd Canon
theorem Qf{v:Value}{xs:List Clue}(hl:xs.length<9223372036854775808):fV Tryz.prog 4 [v] [tT 6,bg az v xs] (.bool true):=by
 refine dY _ (dP 4) λB w0=>?_;refine qB (E:=az) (v:=v) (xs:=xs) (by simp) λav cv oZ=>?_;subst oZ;refine go ?_;refine bn FY (next:=λ_ _=>?_);refine go ?_;refine bn (Gb (xs:=xs) hl) (next:=λb hb=>?_);refine go ?_;cases b with
 |false=>
  refine go ?_;exact bf () (hv:=rfl) (hp:=trivial)
 |true=>
  obtain⟨h1,h2⟩:=hb rfl;have hv:∀x∈xs,x.values.length<=1000000:=λx hx=>by have:=h2 x hx;omega
  refine go ?_;refine bn (xL (xs:=xs) (by omega) hv) (next:=λy hy=>?_);obtain⟨v1,r1⟩:=y;refine go ?_;refine bn (Qb (xs:=xs) (by omega) hv) (next:=λy hy2=>?_);obtain⟨v2,r2⟩:=y;dsimp only at hy hy2⊢;have hs:∀{r:List Clue},fC xs r->short r:=λh g hg=>hv g (h.sub g hg);have hlen:r1.length<=1000000:=by have:=AY hy;omega
  refine go ?_;refine bn (Bf (xs:=r1) (ys:=r2) hlen (hs hy) (hs hy2)) (next:=λ_ _=>?_);rw[mO (hy.uniq hy2)];refine go ?_;exact bf () (hv:=rfl) (hp:=trivial)
theorem Qg{rs:List Clue}(h:rs.Pairwise λa b=>aV a b<0){i:Nat}{z x:Clue}(hi:0<i)(hz:rs[i - 1]? =some z)(hx:rs[i]? =some x):aV z x<0:=by
 obtain⟨h1,e1⟩:=bH.1 hz;obtain⟨h2,e2⟩:=bH.1 hx;have:=Gt.1 h (i - 1) i h1 h2 (by omega)
 rwa [e1,e2]at this
theorem Qh(n:Int):IntKind.u64.wrap n=((n%18446744073709551616).toNat:Int):=by
 show(let m:=n%(2^64:Int);if false&&m>=(2^63:Int)then m - (2^64:Int)else m)=_;simp only[Bool.false_and,kI,if_false];rw[show((2:Int)^64)=18446744073709551616 from rfl];have:=Int.emod_nonneg n (show(18446744073709551616:Int)≠0 by decide);omega
theorem Qi{v:Value}{xs:List Clue}{turn:Int}(hl:xs.length<9223372036854775808)(ht:qE turn):fV Tryz.prog 7 [v,.int .i64 turn] [tT 6,bg az v xs] (.bool true):=by
 refine dY _ (dP 7) λB w0=>?_;refine qB (E:=az) (v:=v) (xs:=xs) (by simp) λav cv oZ=>?_;subst oZ;refine go ?_;refine bn FY (next:=λ_ _=>?_);refine go ?_;refine bn (Gb (xs:=xs) hl) (next:=λb hb=>?_);refine go ?_;cases b with
 |false=>
  refine go ?_;exact bf () (hv:=rfl) (hp:=trivial)
 |true=>
 obtain⟨hl1,hl2⟩:=hb rfl;have hv:∀x∈xs,x.values.length<=1000000:=λx hx=>by have:=hl2 x hx;omega
 refine go ?_;refine bn (xL (xs:=xs) (by omega) hv) (next:=λy hy=>?_);obtain⟨v1,rs⟩:=y;dsimp only at hy⊢;have hrl:rs.length<=60:=by have:=AY hy;omega
 have fe:∀x∈rs,x.values.length<=1000000:=λx hx=>hv x (hy.sub x hx);have hO:=kW kV;refine qB (E:=az) (v:=v1) (xs:=rs) (by simp) λkG cr Qj=>?_;subst Qj;refine go ?_;intro b5;refine go ?_;refine oP (LD (b:=b5)) (h:=?_);refine iJ (λi=>rs.length - i) (λi:Nat=>[(29,.int .i64 (i:Int))]) (λ_=>[]) (λ_=>[]) (λi=>i<=rs.length) 0 (jl _) (body:=?_);intro i hi;refine go ?_;refine bL rfl (λh1=>?_) (λh1=>?_)
 ·have hil:i<rs.length:=by omega
  refine go ?_;refine eX az (xs:=rs) (next:=λ_ _ x (vx:Value) hx=>?_);refine go ?_;intro b7;refine go ?_;refine iJ (λs:Nat×Bool=>xs.length - s.1) (λs=>[(36,.int .i64 (s.1:Int)),(8,.bool s.2)]) (λ_=>[]) (λ_=>[]) (λs=>s.1<=xs.length/\(s.2=true↔x∈xs.take s.1)) (0,false) ⟨jl _,by simp⟩ (body:=?_);rintro⟨j,own⟩ ⟨hj,hown⟩;dsimp only at hj hown⊢;refine go ?_;refine bL rfl (λh2=>?_) (λh2=>?_)
  ·have hjl:j<xs.length:=by omega
   refine go ?_;refine eX az (xs:=xs) (next:=λ_ _ y (vy:Value) hyj=>?_);refine go ?_;intro b10;refine go ?_;cases own with
   |true=>
    have hx1:x∈xs.take (j+1):=by rw[mH hyj];exact gY _ (hown.1 rfl)
    refine go ?_;refine bn (lu (a:=x) (b:=y) (va:=vx) (vb:=vy)) (next:=λ_ _=>?_);rw[<- kD];refine go ?_;first|with_reducible refine kY (λh5=>?_) (λh5=>?_)|with_reducible refine kZ (λh5=>?_) (λh5=>?_)|with_reducible refine jI (λh5=>?_) (λh5=>?_)
    ·refine go ?_;refine dw (j+1,true) (by show xs.length - (j+1)<xs.length - j;omega) ⟨by dsimp only;omega,⟨λ_=>hx1,λ_=>rfl⟩⟩
    refine go ?_;refine bn (qO (xs:=x.values) (ys:=y.values) (fe x (cK hx)) (hv y (cK hyj))) (next:=λ_ _=>?_);refine go ?_;refine bL rfl (λh6=>?_) (λh6=>?_)
    ·exfalso
     obtain⟨r,r1,r2,r3⟩:=hy.all y (cK hyj);have e1:x=r:=AQ hy.inc (cK hx) r1 (by rw[je]at *;omega);subst e1;have:=hO.neg y.values x.values;omega
    refine go ?_;refine dw (j+1,true) (by show xs.length - (j+1)<xs.length - j;omega) ⟨by dsimp only;omega,⟨λ_=>hx1,λ_=>rfl⟩⟩
   |false=>
    have hn:¬x∈xs.take j:=λh=>by have:=hown.2 h;cases this
    have hx1:decide (x=y)=true↔x∈xs.take (j+1):=by
     rw[mH hyj,dS,bV,decide_eq_true_iff];exact⟨λh=>.inr h,λh=>h.resolve_left hn⟩
    refine go ?_;refine bn (Ga (a:=x) (b:=y) (va:=vx) (vb:=vy) (fe x (cK hx)) (hv y (cK hyj))) (next:=λ_ _=>?_);refine go ?_;refine bn (lu (a:=x) (b:=y) (va:=vx) (vb:=vy)) (next:=λ_ _=>?_);rw[<- kD];refine go ?_;first|with_reducible refine kY (λh5=>?_) (λh5=>?_)|with_reducible refine kZ (λh5=>?_) (λh5=>?_)|with_reducible refine jI (λh5=>?_) (λh5=>?_)
    ·refine go ?_;refine dw (j+1,decide (x=y)) (by show xs.length - (j+1)<xs.length - j;omega) ⟨by dsimp only;omega,hx1⟩
    refine go ?_;refine bn (qO (xs:=x.values) (ys:=y.values) (fe x (cK hx)) (hv y (cK hyj))) (next:=λ_ _=>?_);refine go ?_;refine bL rfl (λh6=>?_) (λh6=>?_)
    ·exfalso
     obtain⟨r,r1,r2,r3⟩:=hy.all y (cK hyj);have e1:x=r:=AQ hy.inc (cK hx) r1 (by rw[je]at *;omega);subst e1;have:=hO.neg y.values x.values;omega
    refine go ?_;refine dw (j+1,decide (x=y)) (by show xs.length - (j+1)<xs.length - j;omega) ⟨by dsimp only;omega,hx1⟩
  have Bl:j=xs.length:=by omega
  rw[Bl,nT]at hown;have hot:own=true:=hown.2 (hy.sub x (cK hx));subst hot;refine go ?_;first|with_reducible refine kY (λh3=>?_) (λh3=>?_)|with_reducible refine kZ (λh3=>?_) (λh3=>?_)|with_reducible refine jI (λh3=>?_) (λh3=>?_)
  ·refine go ?_;exact dw (i+1) (by show rs.length - (i+1)<rs.length - i;omega) (by show i+1<=_;omega)
  ·obtain⟨z,hz⟩:∃z,rs[i - 1]? =some z:=⟨_,aU (by omega)⟩
   have hlt:=Qg hy.inc (by omega) hz hx;refine go ?_;rw[show((i:Nat):Int) - 1=((i - 1:Nat):Int)by omega];refine eX az (xs:=rs) (next:=λ_ _ z' (vz:Value) hz'=>?_);cases hz.symm.trans hz';refine go ?_;refine bn (lu (a:=z) (b:=x) (va:=vz) (vb:=vx)) (next:=λ_ _=>?_);rw[<- kD];refine go ?_;refine bL rfl (λh4=>?_) (λh4=>?_)
   ·omega
   refine go ?_;exact dw (i+1) (by show rs.length - (i+1)<rs.length - i;omega) (by show i+1<=_;omega)
 refine go ?_;refine iJ (λi=>xs.length - i) (λi:Nat=>[(79,.int .i64 (i:Int))]) (λ_=>[]) (λ_=>[]) (λi=>i<=xs.length) 0 (jl _) (body:=?_);intro i hi;refine go ?_;refine bL rfl (λh1=>?_) (λh1=>?_)
 ·have hil:i<xs.length:=by omega
  refine go ?_;refine eX az (xs:=xs) (next:=λ_ _ y (vy:Value) hyi=>?_);refine go ?_;intro b12;refine go ?_;refine iJ (λs:Nat×Bool=>rs.length - s.1) (λs=>[(86,.int .i64 (s.1:Int)),(13,.bool s.2)]) (λ_=>[]) (λ_=>[]) (λs=>s.1<=rs.length/\(s.2=true↔∃r∈rs.take s.1,aV r y=0)) (0,false) ⟨jl _,by simp⟩ (body:=?_);rintro⟨j,met⟩ ⟨hj,hmet⟩;dsimp only at hj hmet⊢;refine go ?_;refine bL rfl (λh2=>?_) (λh2=>?_)
  ·have hjl:j<rs.length:=by omega
   refine go ?_;refine eX az (xs:=rs) (next:=λ_ _ x (vx:Value) hxj=>?_);refine go ?_;intro b15;refine go ?_;cases met with
   |true=>
    obtain⟨r,r1,r2⟩:=hmet.1 rfl;refine go ?_;exact dw (j+1,true) (by show rs.length - (j+1)<rs.length - j;omega) ⟨by dsimp only;omega,⟨λ_=>⟨r,by rw[mH hxj];exact gY _ r1,r2⟩,λ_=>rfl⟩⟩
   |false=>
    refine go ?_;refine bn (lu (a:=x) (b:=y) (va:=vx) (vb:=vy)) (next:=λ_ _=>?_);rw[<- kD];refine go ?_;refine dw (j+1,decide (aV x y=0)) (by show rs.length - (j+1)<rs.length - j;omega) ⟨by dsimp only;omega,?_⟩;dsimp only;rw[mH hxj,decide_eq_true_iff];refine⟨λh=>⟨x,by simp,h⟩,λ⟨r,r1,r2⟩=>?_⟩;rcases dS.1 r1 with r1|r1
    ·have:=hmet.2 ⟨r,r1,r2⟩;cases this
    ·rw[bV.1 r1]at r2;exact r2
  have Bl:j=rs.length:=by omega
  rw[Bl,nT]at hmet;obtain⟨r,r1,r2,_⟩:=hy.all y (cK hyi);have hot:met=true:=hmet.2 ⟨r,r1,by rw[je]at *;omega⟩;subst hot;refine go ?_;exact dw (i+1) (by show xs.length - (i+1)<xs.length - i;omega) (by show i+1<=_;omega)
 refine go ?_;refine bL rfl (λh2=>?_) (λh2=>?_)
 ·have hx0:xs=[]:=jm.1 (by omega);have hr0:rs.length=0:=by have:=AY hy;rw[hx0]at this;simpa using this
  refine go ?_;refine bf () (hv:=?_) (hp:=trivial);rw[hr0];rfl
 have hx0:0<xs.length:=by omega
 generalize hk:(turn%18446744073709551616).toNat%xs.length=k;have hkl:k<xs.length:=by rw[<- hk];exact lF _ hx0
 refine go ?_;refine(jb rfl rfl (Ao (k:=.u64) (m:=((turn%18446744073709551616).toNat:Int)) (by kernel_rfl:Tryz.prog.underlying 3=some (.int .i64)) (by kernel_rfl) rfl (Qh turn))).h ?_;refine go ?_;refine(jb rfl rfl (Ao (k:=.u64) (m:=(xs.length:Int)) (by kernel_rfl:Tryz.prog.underlying 3=some (.int .i64)) (by kernel_rfl) rfl (NC (by omega)))).h ?_;refine go ?_;refine(jb rfl rfl (OE rfl rfl hx0)).h ?_;rw[hk];refine go ?_;refine(jb rfl rfl (Ao (k:=.i64) (m:=(k:Int)) (by kernel_rfl:Tryz.prog.underlying 63=some (.int .u64)) (by kernel_rfl) rfl (wrapN (by omega)))).h ?_;refine go ?_;intro Qk;refine go ?_;refine Ng az (xs:=xs) k (by omega) (next:=λa1 c1=>?_);refine go ?_;refine Nf az (xs:=xs) k (by omega) (next:=λa2 c2=>?_);refine go ?_;refine xm az (.slice a1 (xs.length - k) c1) (xs:=xs.drop k) λy1 e1=>?_;refine xm az (.slice a2 k c2) (xs:=xs.take k) λy2 e2=>?_;refine xm az (.slice kG rs.length cr) (xs:=rs) λy3 e3=>?_;refine xn (E:=az) (v:=.slice a1 (xs.length - k) c1) (aa:=y1) ?_;refine xn (E:=az) (v:=.slice a2 k c2) (aa:=y2) ?_;refine xn (E:=az) (v:=.slice kG rs.length cr) (aa:=y3) ?_;have l1:y1.length=xs.length - k:=by rw[<- gq,<- e1,bW]
 have l2:y2.length=k:=by rw[<- bW (f:=λp:CV=>p.1),e2,pz];omega
 have l3:y3.length=rs.length:=by rw[<- e3,bW]
 refine AJ (b:=Qk) (f:=0) (m:=0) az [] y1 rfl (.inl rfl) ⟨by omega,by omega,by omega⟩ (λb1 f1 m1 hm1 hf1=>?_) (hk:=ax.here);rw[jr]at hm1⊢;refine go ?_;refine AJ (b:=b1) (f:=f1) (m:=m1) az y1 y2 hm1 hf1 ⟨by omega,by omega,by omega⟩ (λb2 f2 m2 hm2 hf2=>?_);rw[dO]at hm2;refine go ?_;refine AJ (b:=b2) (f:=f2) (m:=m2) az (y1++y2) y3 (by rw[dO];exact hm2) hf2 ⟨by omega,by omega,by omega⟩ (λb3 f3 m3 Ql hf3=>?_);have hmap:(y1++y2++y3).map (·.1)=xs.drop k++xs.take k++rs:=by rw[jP,jP,e1,e2,e3]
 subst Ql;rw[show aL az (y1++y2++y3)=aL az (y1++y2++y3)++[]from(fu _).symm];refine xD az (aa:=y1++y2++y3) hf3 (aB _) ?_ (λw hw=>?_)
 rotate_left
 ·intro p hp f hf;rcases dS.1 hp with hp|hp
  ·rcases dS.1 hp with hp|hp
   ·exact hw (kz az y1) (by simp) p hp f hf
   ·exact hw (kz az y2) (by simp) p hp f hf
  ·exact hw (kz az y3) (by simp) p hp f hf
 rw[hmap];generalize hzs:xs.drop k++xs.take k++rs=zs;have uS:∀x,x∈zs↔x∈xs:=λx=>by
  rw[<- hzs,dS,dS];constructor
  ·rintro((h|h)|h)
   ·exact List.mem_of_mem_drop h
   ·exact Bn h
   ·exact hy.sub x h
  ·intro h;rw[<- uu k xs]at h;rcases dS.1 h with h|h
   ·exact .inl (.inr h)
   ·exact .inl (.inl h)
 have hzl:zs.length<=1000000:=by rw[<- hzs,dO,dO,gq,pz];omega
 have hyz:fC zs rs:=hy.OW uS;have Qm:∀x∈zs,x.values.length<=1000000:=λx hx=>hv x ((uS x).1 hx);refine go ?_;refine bn (xL (xs:=zs) hzl Qm) (next:=λy hy2=>?_);obtain⟨v4,r4⟩:=y;dsimp only at hy2⊢;have e4:=hy2.uniq hyz;subst e4;have xM:short r4:=λg hg=>fe g hg;refine go ?_;refine bn (Bf (xs:=r4) (ys:=r4) (by omega) xM xM) (next:=λ_ _=>?_);rw[mO rfl];refine go ?_;refine bn (xL (xs:=r4) (by omega) fe) (next:=λy hy3=>?_);obtain⟨v5,r5⟩:=y;dsimp only at hy3⊢;have e5:=hy3.uniq hy.self;subst e5;refine go ?_;refine bn (Bf (xs:=r5) (ys:=r5) (by omega) xM xM) (next:=λ_ _=>?_);rw[mO rfl];refine go ?_;exact bf () (hv:=rfl) (hp:=trivial)
