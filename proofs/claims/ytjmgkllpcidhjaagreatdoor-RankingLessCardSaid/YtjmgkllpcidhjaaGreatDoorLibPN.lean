/-
  ref53: Ranking, Same, Few.
-/
import Derived.Test.YtjmgkllpcidhjaaGreatDoorLibON
set_option linter.all false
set_option maxRecDepth 10000
set_option maxHeartbeats 4000000
namespace Go.Proofs.YtjmgkllpcidhjaaGreatDoor
open Go.Ideal Rk
noncomputable def Vv:=sN Tryz.prog 24
theorem agW:ja Tryz.prog 24=some Vv:=by kernel_rfl
theorem Vw{x y:Int}:eY Tryz.prog 53 [.int .i64 x,.int .i64 y] [] (.int .i64 (fG x y)):=by
 refine aX _ (bN 53) λB w0=>?_;refine go ?_;refine aC rfl (λh1=>?_) (λh1=>?_)
 ·refine go ?_;exact aj () (hv:=by rw[fG,if_neg (by omega),if_pos h1];rfl) (hp:=trivial)
 refine go ?_;refine aC rfl (λh2=>?_) (λh2=>?_)
 ·refine go ?_;exact aj () (hv:=by rw[fG,if_neg (by omega),if_neg h1];rfl) (hp:=trivial)
 refine go ?_;exact aj () (hv:=by rw[fG,if_pos (by omega)];rfl) (hp:=trivial)
theorem Nu{s:aT}{v1 v2 v3 v4 vl:Value}{l:List aG}(hx1:cellsOf v1=some [v1])(hx2:cellsOf v2=some [v2])(hx3:cellsOf v3=some [v3])(hx4:cellsOf v4=some [v4]):
 bD Tryz.prog (.func 18) [.agg ⟨kz s v1 v2 v3 v4⟩,vl] [] [] [ah ae v1 s.lv,ah ae v2 s.cl,ah fw v3 s.pg,ah ae v4 s.pz,ah cO vl l] (λb:Bool=>.bool b) (λ_=>[]) (λ_=>[]) (λb=>b=true->s.c<=4/\s.p<=3/\l.length<=12/\s.pg.length<=30):=by
 refine aX _ (bN 18) λB w0=>?_;refine go ?_;intro b2;refine go ?_;refine gG (λh1=>?_) (λh1=>?_)
 ·refine go ?_;exact aj false (hv:=rfl) (hp:=λh=>by cases h)
 refine go ?_;refine gG (λh2=>?_) (λh2=>?_)
 ·refine go ?_;exact aj false (hv:=rfl) (hp:=λh=>by cases h)
 refine go ?_;refine gG (λh3=>?_) (λh3=>?_)
 ·refine go ?_;exact aj false (hv:=rfl) (hp:=λh=>by cases h)
 refine go ?_;refine gG (λh4=>?_) (λh4=>?_)
 ·refine go ?_;exact aj false (hv:=rfl) (hp:=λh=>by cases h)
 refine go ?_;refine gG (λh5=>?_) (λh5=>?_)
 ·refine go ?_;exact aj false (hv:=rfl) (hp:=λh=>by cases h)
 refine go ?_;refine gG (λh6=>?_) (λh6=>?_)
 ·refine go ?_;exact aj false (hv:=rfl) (hp:=λh=>by cases h)
 refine go ?_;exact aj _ (hv:=rfl) (hp:=λ_=>⟨h1,h2,by omega,by omega⟩)
theorem Vx{vl:Value}{xs:List Int}(hl:xs.length<=1000000):bD Tryz.prog (.func 17) [vl] [] [] [ah ae vl xs] (λy:Option Nat=>gv 1 y xs.length) (λy=>[ap ae (gv 1 y xs.length) (aQ xs)]) (λ_=>[]) (λ_=>True):=by
 refine aX M7 UW λB w0=>?_;refine go ?_;refine nE ae ?_;refine bE (λy:Nat×Option Nat=>xs.length - y.1) (λy=>[(4,.int .i64 (y.1:Int)),(3,gv 1 y.2 y.1)]) (λy=>[ap ae (gv 1 y.2 y.1) ((aQ xs).take y.1)]) (λ_=>[]) (λy=>y.1<=xs.length) (0,none) (bF _) (hk:=by
  show aM [ap ae (.slice none 0 0) []] _ _;repeat (first|exact aM.nil|(apply aM.cons;(focus (repeat (first|exact ai.here|apply ai.there)))))) (body:=?_)
 rintro⟨k,c⟩ hk;dsimp only at hk⊢;generalize hv:gv 1 c k=v;have hrl:(aQ xs).length=xs.length:=bC ..;have htl:((aQ xs).take k).length=k:=by rw[dw];omega
 refine go ?_;refine aC rfl (λh1=>?_) (λh1=>?_)
 ·have hx:xs[k]? =some (xs[k]'(by omega)):=bf _;generalize xs[k]'(by omega)=x at hx;refine go ?_;refine bE (λj=>xs.length - j) (λj:Nat=>[(6,.int .i64 (j:Int)),(5,.int .i64 (1+((xs.take j).countP λm=>decide (x<m):Nat):Int))]) (λ_=>[]) (λ_=>[]) (λj=>j<=xs.length) 0 (bF _) (body:=?_);intro j hj;have hcl:((xs.take j).countP λm=>decide (x<m))<=(xs.take j).length:=Bq;rw[dw]at hcl;refine go ?_;refine aC rfl (λh2=>?_) (λh2=>?_)
  ·refine go ?_;intro _ _ z hz _ _ x2 hx2;cases hx.symm.trans hx2;have hs:((xs.take (j+1)).countP λm=>decide (x<m))=((xs.take j).countP λm=>decide (x<m))+if x<z then 1 else 0:=by rw[dx hz,Br,Bt];simp
   refine go ?_;refine aC rfl (λh3=>?_) (λh3=>?_)
   ·rw[if_pos h3]at hs;refine go ?_;rw[show(1+(((xs.take j).countP λm=>decide (x<m):Nat):Int))+1=1+(((xs.take (j+1)).countP λm=>decide (x<m):Nat):Int)by rw[hs];omega];exact aO (j+1) (by omega) (by omega)
   ·have hs2:((xs.take j).countP λm=>decide (x<m))=((xs.take (j+1)).countP λm=>decide (x<m)):=by rw[hs,if_neg h3,nV]
    rw[hs2];refine go ?_;exact aO (j+1) (by omega) (by omega)
  have hjl:j=xs.length:=by omega
  subst hjl;rw[fK];refine go ?_;intro yS;refine go ?_;have vF:(aQ xs)[k]? =some (1+((xs.countP λm=>decide (x<m):Nat):Int)):=by unfold aQ;rw[bX,hx];rfl
  refine Lr (xs:=(aQ xs).take k) ae (1+((xs.countP λm=>decide (x<m):Nat):Int)) () (by omega) (next:=λcb=>?_);rw[<- dx vF,htl,show Value.slice (some ⟨cb,0,some ae.n⟩) (k+1) (k+1)=gv 1 (some cb) (k+1)from rfl];refine go ?_;exact aO (k+1,some cb) (by show xs.length - (k+1)<xs.length - k;omega) (by show k+1<=_;omega)
 have hkl:k=xs.length:=by omega
 subst hkl;rw[mM (by omega)];refine go ?_;subst hv;exact aj c (hv:=rfl) (hp:=trivial)
theorem agX{s:aT}{v1 v2 v3 v4 vl:Value}{l:List aG}(h4:s.c<=4)(hW:nP s.pg)(hb1:s.lv.length<9223372036854775808)(hb2:s.cl.length<9223372036854775808)(hb3:s.pz.length<9223372036854775808)(hb4:s.pg.length<9223372036854775808)(hx1:cellsOf v1=some [v1])(hx2:cellsOf v2=some [v2])(hx3:cellsOf v3=some [v3])(hx4:cellsOf v4=some [v4]):
 bD Tryz.prog (.func 23) [.agg ⟨kz s v1 v2 v3 v4⟩,vl] [] [] [ah ae v1 s.lv,ah ae v2 s.cl,ah fw v3 s.pg,ah ae v4 s.pz,ah cO vl l] Vk (λ_=>[]) Vl (Vm s l):=by
 refine aX _ (bN 23) λB w0=>?_;refine go ?_;intro b2 b4;refine go ?_;refine bG (eP (b:=b2)) (h:=?_);refine aD (Vu (s:=s) (l:=l) h4 hW hb1 hb2 hb3 hb4 hx1 hx2 hx3 hx4) (next:=λy hy=>?_);obtain⟨vx,e,X⟩:=y;obtain⟨rfl,rfl⟩:=hy;dsimp only;refine go ?_;refine aC rfl (λh1=>?_) (λh1=>?_)
 ·refine go ?_;refine cK (ah ae (.slice none 0 0) ([]:List Int)) (λw _=>uf w) ?_;refine cK (ah iK (.slice none 0 0) ([]:List (Int×Int))) (λw _=>uf w) ?_;exact aj ⟨.slice none 0 0,.slice none 0 0,.slice none 0 0,gJ s l,[],[],[]⟩ (hv:=rfl) (hp:=⟨rfl,λ_=>⟨rfl,rfl,rfl⟩,λk=>absurd k h1⟩)
 have h1:gJ s l=0:=sG.1 h1;obtain⟨hck,hL⟩:=yY h1;have h:=mX hck;have hc1:=h.sh.c1;have Nq:=(qQ hck hL).2;have hne:=yK hck hL;have fA:∀x∈dV s l,x.length=s.c.toNat:=λx hx=>uW hx;have hlen:(dV s l).length<=4096:=by
  rw[Nq];apply Classical.byContradiction;intro hgt;exact hL ⟨s.p.toNat - 1,by have:=h.sh.p1;omega,by rw[show s.p.toNat - 1+1=s.p.toNat by have:=h.sh.p1;omega];omega⟩
 generalize hX:dV s l=X at hne fA hlen;obtain⟨x0,hX0,hhd⟩:∃x0,X[0]? =some x0/\X.headD []=x0:=by
  obtain⟨x0,X',rfl⟩:=List.exists_cons_of_ne_nil hne;exact⟨x0,rfl,rfl⟩
 have hpos:0<X.length:=o9.2 hne;have agN:=fA x0 (cZ hX0);have hr0:=oQ x0;refine go ?_;refine bJ (aI ae) (k:=0) (next:=λ_ _ t (u:Value) ht=>?_);cases hX0.symm.trans ht;refine go ?_;refine bJ (aI ae) (k:=0) (next:=λ_ _ t (u':Value) ht=>?_);cases hX0.symm.trans ht;refine go ?_;intro b8;refine aD (Vx (xs:=x0) (by omega)) (next:=λya _=>?_);refine H8 (by omega) (λbb eb=>?_) (hk:=.here);subst eb;refine go ?_;refine aD (Vx (xs:=x0) (by omega)) (next:=λyb _=>?_);refine H8 (by omega) (λbw ew=>?_) (hk:=.here);subst ew;rw[show gv 1 (some bb) x0.length=.slice (some ⟨bb,0,some 1⟩) x0.length x0.length from rfl,show gv 1 (some bw) x0.length=.slice (some ⟨bw,0,some 1⟩) x0.length x0.length from rfl];refine go ?_;have hbl:∀n,n<=X.length->(jl X (aQ x0) n).length=s.c.toNat:=λn hn=>Dy (by omega) fA n hn;have hwl:∀n,n<=X.length->(jm X (aQ x0) n).length=s.c.toNat:=λn hn=>Dz (by omega) fA n hn;refine bE (λk=>X.length - k) (λk:Nat=>[(9,.int .i64 (k:Int))]) (λk=>[pt bb (.cells ((jl X (aQ x0) k).map (.int .i64))),pt bw (.cells ((jm X (aQ x0) k).map (.int .i64)))]) (λ_=>[]) (λk=>k<=X.length) 0 (bF _) (hk:=by repeat (first|exact aM.nil|(apply aM.cons;(focus (repeat (first|exact ai.here|apply ai.there)))))) (body:=?_);intro k hk;have hbk:=hbl k hk;have hwk:=hwl k hk;refine go ?_;refine aC rfl (λh2=>?_) (λh2=>?_)
 ·refine go ?_;refine bJ (aI ae) (k:=k) (next:=λ_ _ t (u:Value) ht=>?_);have htl:=fA t (cZ ht);have hrt:=oQ t;have hbs:=Gv (b0:=aQ x0) ht;have hws:=Gw (b0:=aQ x0) ht;refine go ?_;refine aD (aga (xs:=t) (by omega)) (next:=λvr _=>?_);refine go ?_;generalize jl X (aQ x0) k=b0 at hbk hbs⊢;generalize jm X (aQ x0) k=c0 at hwk hws⊢;have hb0:b0.length=(aQ t).length:=by omega
  have hc0:c0.length=(aQ t).length:=by omega
  refine bE (λj=>(aQ t).length - j) (λj:Nat=>[(11,.int .i64 (j:Int))]) (λj=>[pt bb (.cells ((iR min b0 (aQ t) j).map (.int .i64))),pt bw (.cells ((iR max c0 (aQ t) j).map (.int .i64)))]) (λ_=>[]) (λj=>j<=(aQ t).length) 0 (bF _) (hk:=by
   rw[Gx,Gx];repeat (first|exact aM.nil|(apply aM.cons;(focus (repeat (first|exact ai.here|apply ai.there)))))) (body:=?_)
  intro j hj;refine go ?_;refine aC rfl (λh3=>?_) (λh3=>?_)
  ·have hjl:j<(aQ t).length:=by omega
   have hzb:=Gz (f:=min) hb0 (n:=j) hj;have hzc:=Gz (f:=max) hc0 (n:=j) hj;have hxb:b0[j]? =some (b0[j]'(by omega)):=bf _;have yZ:c0[j]? =some (c0[j]'(by omega)):=bf _;have hgb:=(GA (f:=min) hb0 hjl).trans hxb;have hgc:=(GA (f:=max) hc0 hjl).trans yZ;have hz:(aQ t)[j]? =some ((aQ t)[j]'hjl):=bf _;generalize(aQ t)[j]'hjl=z at hz;have hsb:=GD (f:=min) hb0 hxb hz;have hsc:=GD (f:=max) hc0 yZ hz;generalize b0[j]'(by omega)=xb at hxb hgb hsb;generalize c0[j]'(by omega)=xc at yZ hgc hsc;refine go ?_;refine jU (o:=0+j*1) (cs:=(iR min b0 (aQ t) j).map (.int .i64)) (.int .i64 xb) (by rw[dD,gT,bX,hgb];rfl) ?_;refine go ?_;intro _ _ z' hz';cases hz.symm.trans hz';refine go ?_;refine(bO rfl rfl (rR rfl rfl)).h ?_;refine go ?_;refine p9 (o:=0+j*1) (cs:=(iR min b0 (aQ t) j).map (.int .i64)) (cs':=(iR min b0 (aQ t) (j+1)).map (.int .i64)) (v:=.int .i64 (min xb z)) (by rw[dD,gT,<- hsb,pI]) (by rw[bC];omega) ?_;refine go ?_;refine jU (o:=0+j*1) (cs:=(iR max c0 (aQ t) j).map (.int .i64)) (.int .i64 xc) (by rw[dD,gT,bX,hgc];rfl) ?_;refine go ?_;intro _ _ z' hz';cases hz.symm.trans hz';refine go ?_;refine(bO rfl rfl (nG rfl rfl)).h ?_;refine go ?_;refine p9 (o:=0+j*1) (cs:=(iR max c0 (aQ t) j).map (.int .i64)) (cs':=(iR max c0 (aQ t) (j+1)).map (.int .i64)) (v:=.int .i64 (max xc z)) (by rw[dD,gT,<- hsc,pI]) (by rw[bC];omega) ?_;refine go ?_;exact aO (j+1) (by omega) (by omega)
  have hjl:j=(aQ t).length:=by omega
  subst hjl;rw[Gy hb0,Gy hc0,<- hbs,<- hws];refine go ?_;exact aO (k+1) (by omega) (by omega)
 have hkl:k=X.length:=by omega
 subst hkl;rw[show jl X (aQ x0) X.length=eF X by unfold eF;rw[hhd],show jm X (aQ x0) X.length=iJ X by unfold iJ;rw[hhd]];refine go ?_;have hbX:(eF X).length=s.c.toNat:=yL hne fA;have hwX:(iJ X).length=s.c.toNat:=yM hne fA;refine nE iK ?_;refine go ?_;refine bE (λy:Nat×Value=>s.c.toNat - y.1) (λy=>[(12,.int .i64 (y.1:Int))]) (λy=>[pt b8 (.cells [.slice (some ⟨bb,0,some 1⟩) x0.length x0.length,.slice (some ⟨bw,0,some 1⟩) x0.length x0.length,y.2]),ap iK y.2 (jJ X s.c.toNat y.1)]) (λ_=>[]) (λy=>y.1<=s.c.toNat) (0,.slice none 0 0) (bF _) (hk:=by
  show aM [_,ap iK (.slice none 0 0) []] _ _;repeat (first|exact aM.nil|(apply aM.cons;(focus (repeat (first|exact ai.here|apply ai.there)))))) (body:=?_)
 rintro⟨a,vu⟩ ha;dsimp only at ha⊢;have ug:=wP X s.c.toNat a;have DD:=AJ (X:=X) (c:=s.c.toNat) (n:=a);have hac:a*s.c.toNat<=4*4:=xC (by omega) (by omega);refine go ?_;refine aC rfl (λh5=>?_) (λh5=>?_)
 ·refine go ?_;rw[show(a:Int)+1=((a+1:Nat):Int)from rfl];refine bE (λy:Nat×Value=>s.c.toNat - y.1) (λy=>[(13,.int .i64 (y.1:Int))]) (λy=>[pt b8 (.cells [.slice (some ⟨bb,0,some 1⟩) x0.length x0.length,.slice (some ⟨bw,0,some 1⟩) x0.length x0.length,y.2]),ap iK y.2 (jJ X s.c.toNat a++kX X a y.1)]) (λ_=>[]) (λy=>a<y.1/\y.1<=s.c.toNat) (a+1,vu) ⟨qg _,by show a+1<=_;omega⟩ (hk:=by
   rw[Mk,gQ];repeat (first|exact aM.nil|(apply aM.cons;(focus (repeat (first|exact ai.here|apply ai.there)))))) (body:=?_)
  rintro⟨b,vu⟩ ⟨hb1',hb2'⟩;dsimp only at hb1' hb2'⊢;have hil:=GG X a b;refine go ?_;refine aC rfl (λh6=>?_) (λh6=>?_)
  ·have his:=DC (X:=X) (a:=a) (b:=b) hb1';have hx:x0[a]? =some (x0[a]'(by omega)):=bf _;have hy:x0[b]? =some (x0[b]'(by omega)):=bf _;generalize x0[a]'(by omega)=x at hx;generalize x0[b]'(by omega)=y at hy;have hxg:=ic hx;have hyg:=ic hy;refine go ?_;refine bE (λz:Nat×Bool=>X.length - z.1) (λz=>[(15,.int .i64 (z.1:Int)),(14,.bool z.2)]) (λ_=>[]) (λ_=>[]) (λz=>z.1<=X.length/\z.2=!wQ X a b z.1) (0,true) ⟨bF _,rfl⟩ (body:=?_);rintro⟨n,sm⟩ ⟨hn,hsm⟩;dsimp only at hn hsm⊢;refine go ?_;refine aC rfl (λh7=>?_) (λh7=>?_)
   ·have ht:X[n]? =some (X[n]'(by omega)):=bf _;generalize X[n]'(by omega)=t at ht;have htl:=fA t (cZ ht);have hds:=adw (a:=a) (b:=b) ht;rw[hhd,hxg,hyg]at hds;cases sm with
    |false=>
     have hd:wQ X a b n=true:=by simpa using hsm.symm
     refine go ?_;exact aO (n+1,false) (by show X.length - (n+1)<X.length - n;omega) ⟨by show n+1<=_;omega,by show false=_;rw[hds,hd];rfl⟩
    |true=>
     have hd:wQ X a b n=false:=by simpa using hsm.symm
     rw[hd,Bool.false_or]at hds;refine go ?_;refine bJ (aI ae) (k:=n) (next:=λ_ _ t' (u:Value) ht'=>?_);cases ht.symm.trans ht';refine go ?_;intro _ _ p1 hp1;refine go ?_;refine bJ (aI ae) (k:=n) (next:=λ_ _ t' (u':Value) ht'=>?_);cases ht.symm.trans ht';refine go ?_;intro _ _ p2 hp2;refine go ?_;refine bJ (aI ae) (k:=0) (next:=λ_ _ t' (u':Value) ht'=>?_);cases hX0.symm.trans ht';refine go ?_;intro _ _ x' hx';cases hx.symm.trans hx';refine go ?_;refine bJ (aI ae) (k:=0) (next:=λ_ _ t' (u':Value) ht'=>?_);cases hX0.symm.trans ht';refine go ?_;intro _ _ y' hy';cases hy.symm.trans hy';refine go ?_;rw[ic hp1,ic hp2]at hds;refine aD (Vw (x:=p1) (y:=p2)) (next:=λ_ _=>?_);refine go ?_;refine aD (Vw (x:=x) (y:=y)) (next:=λ_ _=>?_);refine go ?_;exact aO (n+1,decide (fG p1 p2=fG x y)) (by show X.length - (n+1)<X.length - n;omega) ⟨by show n+1<=_;omega,by show decide _=_;rw[hds];simp⟩
   have hnl:n=X.length:=by omega
   subst hnl;rw[adv]at hsm;refine go ?_;cases sm with
   |false=>
    have hd:jI X a b=true:=by simpa using hsm.symm
    rw[if_pos hd]at his;refine go ?_;intro agP;refine go ?_;refine nH (xs:=jJ X s.c.toNat a++kX X a b) iK ((a:Int),(b:Int)) () (by rw[dW];omega) (next:=λad=>?_);rw[ik,<- his];refine go ?_;exact aO (b+1,_) (by show s.c.toNat - (b+1)<s.c.toNat - b;omega) ⟨by show a<b+1;omega,by show b+1<=_;omega⟩
   |true=>
    have hd:jI X a b=false:=by simpa using hsm.symm
    rw[if_neg (by rw[hd];simp)]at his;rw[<- his];refine go ?_;exact aO (b+1,vu) (by show s.c.toNat - (b+1)<s.c.toNat - b;omega) ⟨by show a<b+1;omega,by show b+1<=_;omega⟩
  have hbe:b=s.c.toNat:=by omega
  subst hbe;rw[<- DD];refine go ?_;exact aO (a+1,vu) (by show s.c.toNat - (a+1)<s.c.toNat - a;omega) (by show a+1<=_;omega)
 have hae:a=s.c.toNat:=by omega
 subst hae;rw[show jJ X s.c.toNat s.c.toNat=und X s.c.toNat from rfl];refine bG (A:=ap iK vu (und X s.c.toNat)) (fs:=[ah iK vu (und X s.c.toNat)]) pX (h:=?_);refine gH (E:=iK) (v:=vu) (xs:=und X s.c.toNat) (by simp) λau cu eu=>?_;subst eu;rw[show x0.length=(eF X).length by omega];refine bG (A:=pt bb (.cells ((eF X).map (.int .i64)))) (fs:=[ah ae (.slice (some ⟨bb,0,some 1⟩) (eF X).length (eF X).length) (eF X)]) (lC (b:=bb) (f:=1) (c:=(eF X).length) (xs:=eF X)) (h:=?_);refine bG (A:=pt bw (.cells ((iJ X).map (.int .i64)))) (fs:=[ah ae (.slice (some ⟨bw,0,some 1⟩) (eF X).length (eF X).length) (iJ X)]) (by rw[show(eF X).length=(iJ X).length by omega];exact lC (b:=bw) (f:=1) (c:=(iJ X).length) (xs:=iJ X)) (h:=?_);refine go ?_;exact aj ⟨.slice (some ⟨bb,0,some 1⟩) (eF X).length (eF X).length,.slice (some ⟨bw,0,some 1⟩) (eF X).length (eF X).length,.slice au (und X s.c.toNat).length cu,0,eF X,iJ X,und X s.c.toNat⟩ (hv:=rfl) (hp:=⟨h1.symm,λk=>absurd h1 k,λ_=>by rw[hX];exact⟨rfl,rfl,rfl⟩⟩)
