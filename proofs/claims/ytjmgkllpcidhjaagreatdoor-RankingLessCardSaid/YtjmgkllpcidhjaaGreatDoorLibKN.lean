/-
  ref53: less; ref13.In: towards Orders.
-/
import Derived.Test.YtjmgkllpcidhjaaGreatDoorLibJN
import Derived.Test.YtjmgkllpcidhjaaGreatDoorPlainBN
set_option linter.all false
set_option maxRecDepth 10000
set_option maxHeartbeats 4000000
namespace Go.Proofs.YtjmgkllpcidhjaaGreatDoor
open Go.Ideal Rk
noncomputable def U3:=sN Tryz.prog 96
theorem agd:ja Tryz.prog 96=some U3:=by kernel_rfl
theorem age{va vb:Value}{xs ys:List Int}(hl:xs.length=ys.length)(hx:xs.length<9223372036854775808):eY Tryz.prog 67 [va,vb] [ah ae va xs,ah ae vb ys] (.bool (gZ xs ys)):=by
 refine aX _ (bN 67) λB w0=>?_;refine go ?_;refine bE (λk=>xs.length - k) (λk:Nat=>[(5,.int .i64 (k:Int))]) (λ_=>[]) (λ_=>[]) (λk=>k<=xs.length/\xs.take k=ys.take k) 0 ⟨bF _,rfl⟩ (body:=?_);rintro k ⟨hk,heq⟩;refine go ?_;refine aC rfl (λh2=>?_) (λh2=>?_)
 ·refine go ?_;intro _ _ x hx1 _ _ y hy1;refine go ?_;refine aC rfl (λh3=>?_) (λh3=>?_)
  ·have hb:=L9 k heq hx1 hy1 h3;refine go ?_;intro _ _ x' hx' _ _ y' hy';cases hx1.symm.trans hx';cases hy1.symm.trans hy';refine go ?_;exact aj () (hv:=by rw[hb];rfl) (hp:=trivial)
  ·have h3:x=y:=sG.1 h3;subst h3;refine go ?_;exact aO (k+1) (by omega) ⟨by omega,by rw[dx hx1,dx hy1,heq]⟩
 have hkl:k=xs.length:=by omega
 subst hkl;rw[fK,mM (by omega)]at heq;subst heq;refine go ?_;exact aj () (hv:=by rw[Dt];rfl) (hp:=trivial)
end Go.Proofs.YtjmgkllpcidhjaaGreatDoor
namespace Go.Proofs.YtjmgkllpcidhjaaGreatDoor
open Go.Ideal Rk
section
variable {P:Program} {B:List Nat} {w0:Wd} {kl fF:List OA} {F:List aK} {K:KO} {ds:List Tmp} {rest:List aY} {n:Nat} {l:List (Nat×Value)} {D:List Deferred} {pm:Option FrameMode} {ro:Option Nat} {d:Nat} {g:Option (Tmp×Bool)}
theorem agf{e:TypeId}{bytes b bx m:Nat}{s x:Operand}{cs:List Value}(hne:0<cs.length)(hm:cs.length*bytes<=1073741824/\cs.length<=1073741824)(hmc:m=cs.length)
 (next:∀b',R (λh=>aB P ds rest (act n ((d,.slice (some ⟨b',0,some 1⟩) m m)::l) D pm ro) h K) B w0 (pt b' (.cells cs)::pt bx (.cells cs)::fF) F)
 (hk:aM [pt b (.cells []),pt bx (.cells cs)] kl fF) (hs:ev l s=.slice (some ⟨b,0,some 0⟩) 0 0:=by rfl) (hx:ev l x=.slice (some ⟨bx,0,some 0⟩) m m:=by rfl) (hn:Nat.blt d n=true:=by rfl) (hg:bH l g=true:=by rfl):
 R (λh=>aB P ds (⟨⟨some d,g,.append e 1 bytes s x⟩,[]⟩::rest) (act n l D pm ro) h K) B w0 kl F:=λw st=>by
 subst hmc;have st1:St B w0 (pt b (.cells [])::pt bx (.cells cs)::fF) F w:=st.jF hk;have hat:At w.h b (.cells []):=st1.at_ .here;have agh:At w.h bx (.cells cs):=st1.at_ (.there .here);obtain⟨k,hk'⟩:∃k,cs.length=k+1:=⟨cs.length - 1,by omega⟩
 have hread:w.h.dK bx 0 (cs.length*1)=some cs:=by
  rw[agh.c.dK,j5,j6,gT,uo,if_pos (aH _),fK]
 refine CG (b:=b) (o:=0) (m:=0) (k:=k) (f:=some 0) (old:=[]) (xs:=cs) hn hg hs (by rw[hx,hk'];rfl) ?_ ?_ (.inl rfl) ?_ λh' mv=>?_
 ·rw[hx,<- hk'];exact hread
 ·rw[hat.c.dK];rfl
 ·rw[dD,<- hk'];omega
 obtain⟨w',rfl,dO,qH⟩:=st1.move mv;rw[gL]at dO;have:=next w.h.next w' dO
 rw[hk']at this;rw[dD];exact this
end
theorem U4{bp m:Nat}{xs:List Int}(hm:m=xs.length)(hl:xs.length<=1000000):bD Tryz.prog (.func 33) [.slice (some ⟨bp,0,some 0⟩) m m] [] [pt bp (.cells (xs.map (.int .i64)))] [] (λv:Value=>v) (λ_=>[pt bp (.cells (xs.map (.int .i64)))]) (λv=>[ah ae v xs]) (λ_=>True):=by
 subst hm;refine aX MS Um λB w0=>?_;refine go ?_;refine(bO rfl rfl (QO (e:=3) (by kernel_rfl) rfl)).h ?_;refine go ?_;intro b5;refine go ?_;by_cases h0:xs=[]
 ·subst h0;refine QR ?_ (b:=b5);refine go ?_;refine bG (A:=pt b5 (.cells [])) (fs:=[ah ae (.slice (some ⟨b5,0,some 0⟩) 0 0) ([]:List Int)]) (lC (b:=b5) (f:=0) (c:=0) (xs:=[])) (h:=?_);exact aj (.slice (some ⟨b5,0,some 0⟩) 0 0) (hv:=rfl) (hp:=trivial)
 have h0:0<xs.length:=o9.2 h0;refine agf (b:=b5) (bx:=bp) (cs:=xs.map (.int .i64)) (by rw[bC];exact h0) (by rw[bC];omega) (by rw[bC]) (λb'=>?_) (hk:=.cons .here (.cons .here .nil));refine go ?_;refine bG (A:=pt b' (.cells (xs.map (.int .i64)))) (fs:=[ah ae (.slice (some ⟨b',0,some 1⟩) xs.length xs.length) xs]) (lC (b:=b') (f:=1) (c:=xs.length) (xs:=xs)) (h:=?_);exact aj (.slice (some ⟨b',0,some 1⟩) xs.length xs.length) (hv:=rfl) (hp:=trivial)
abbrev nxF(vl vo:Value)(l:List aG)(own:List Nat)(bo ba bq bp bl bn:Nat):List aK:=
 [dG bo 0 [vo],dG bq 0 [.slice (some ⟨bp,0,some 0⟩) own.length own.length],dG bl 0 [vl],dG bn 0 [.func (.func 61) ⟨[]⟩ ⟨[ptr' bo,ptr' ba,ptr' bq,ptr' bl,ptr' bn]⟩],ah ae vo (ints own),ah cO vl l]
theorem M8{l:List aG}{p:Int}{k i:Nat}(h:(aL l p)[k]? =some i){x:aG}(hx:l[i]? =some x):lo (wl l p) k=x.lo/\hi (wl l p) k=x.hi:=by
 have:=AB h;rw[show l.getD i dR=x by rw[nY,hx];rfl]at this;unfold lo hi;rw[nY,this];exact⟨rfl,rfl⟩
theorem Hz{w:Wd}{b o m:Nat}{cs:List Value}(h:(dG b o cs).p w):(dG b (o+m) (cs.drop m)).p w:=by
 obtain⟨cells,h1,h2⟩:=h;refine⟨cells,h1,λj u hj=>?_⟩;rw[jy]at hj;rw[lS];exact h2 _ u hj
theorem HV{pl:List Int}{i:Nat}{x:Int}(h:pl[i]? =some x):eT pl i=decide (x=0):=by
 show decide (pl.getD i 0=0)=_;rw[nY,h];rfl
theorem agj{vl vo:Value}{l:List aG}{p:Int}{s:aT}{n:Nat}{bo ba bq bp bl bn:Nat}(hr:∀x∈l,iW s x)(Eb:l.length<=32)(hn:n=(aL l p).length)(hn8:n<=8):∀(f:Nat) {pl:List Int} {fr:Int} {dn:Nat} {acc:List (List Int)} {va:Value},oN (wl l p) pl fr dn->n<=dn+f->0<=fr->fr<=1048577->
 acc.length+(mW (wl l p) f pl fr dn).length<=4096->
 bD Tryz.prog (.func 61) [.int .i64 (dn:Int),.int .i64 fr] [ptr' bo,ptr' ba,ptr' bq,ptr' bl,ptr' bn] [pt ba (.cells [va]),ap (aI ae) va acc,pt bp (.cells (pl.map (.int .i64)))] (nxF vl vo l (aL l p) bo ba bq bp bl bn)
  (λ_:Value=>.tuple ⟨[]⟩) (λU5=>[pt ba (.cells [U5]),ap (aI ae) U5 (acc++mW (wl l p) f pl fr dn),pt bp (.cells (pl.map (.int .i64)))]) (λ_=>[]) (λ_=>True):=by
 have jX:(wl l p).length=n:=by rw[mY,hn]
 have hil:=tN (aL l p);intro f;induction f with
 |zero=>
  intro pl fr dn acc va st hf h0 h1 hacc;have hdn:dn=n:=by have:=st.tot;omega
  rw[SG (by omega)]at hacc⊢;simp only[qm]at hacc;have hpl:pl.length=n:=by rw[st.len,jX]
  refine aX _ (bN 61) λB w0=>?_;refine go ?_;refine aC rfl (λh2=>?_) (λh2=>?_)
  ·refine go ?_;refine aC rfl (λh3=>?_) (λh3=>?_)
   ·exfalso;omega
   refine go ?_;refine aD (U4 (bp:=bp) (m:=(aL l p).length) (xs:=pl) (by omega) (by omega)) (next:=λvc _=>?_);refine gH (E:=ae) (v:=vc) (xs:=pl) (by simp) λav cv ev=>?_;subst ev;refine go ?_;intro b31;refine go ?_;refine nH (xs:=acc) (aI ae) pl (.slice av pl.length cv) (by omega) (next:=λad=>?_);refine go ?_;exact aj (.slice ad (acc.length+1) (acc.length+1)) (hv:=rfl) (hp:=trivial)
  ·exfalso;omega
 |succ f ih=>
  intro pl fr dn acc va st hf h0 h1 hacc;have hpl:pl.length=n:=by rw[st.len,jX]
  refine aX _ (bN 61) λB w0=>?_;refine go ?_;refine aC rfl (λh2=>?_) (λh2=>?_)
  ·have hdn:dn=n:=by omega
   rw[SG (by omega)]at hacc⊢;simp only[qm]at hacc;refine go ?_;refine aC rfl (λh3=>?_) (λh3=>?_)
   ·exfalso;omega
   refine go ?_;refine aD (U4 (bp:=bp) (m:=(aL l p).length) (xs:=pl) (by omega) (by omega)) (next:=λvc _=>?_);refine gH (E:=ae) (v:=vc) (xs:=pl) (by simp) λav cv ev=>?_;subst ev;refine go ?_;intro b31;refine go ?_;refine nH (xs:=acc) (aI ae) pl (.slice av pl.length cv) (by omega) (next:=λad=>?_);refine go ?_;exact aj (.slice ad (acc.length+1) (acc.length+1)) (hv:=rfl) (hp:=trivial)
  have hdn:dn≠(wl l p).length:=by omega
  have hdl:dn<n:=by have:=st.tot;omega
  rw[adK hdn]at hacc⊢;have hp2:1<2^n:=Nat.one_lt_two_pow (by omega);have MZ:2^n<=256:=Nat.pow_le_pow_right (n:=2) (by decide) hn8;rw[jX]at hacc⊢;refine go ?_;refine bE (λy:Nat×Value=>2^n - y.1) (λy=>[(9,.int .i64 (y.1:Int))]) (λy=>[pt ba (.cells [y.2]),ap (aI ae) y.2 (acc++si (wl l p) f pl fr dn y.1),pt bp (.cells (pl.map (.int .i64)))]) (λ_=>[]) (λy=>1<=y.1/\y.1<=2^n) (1,va) ⟨aH _,by omega⟩ (hk:=by
   rw[adJ,gQ];repeat (first|exact aM.nil|(apply aM.cons;(focus (repeat (first|exact ai.here|apply ai.there)))))) (body:=?_)
  rintro⟨g,va⟩ ⟨hg1,hg2⟩;dsimp only at hg1 hg2⊢;refine go ?_;refine(bO rfl rfl (aa3 (a:=1) (b:=(ints (aL l p)).length) rfl rfl (by omega) (by rw[Nat.one_shiftLeft,hil,<- hn];omega))).h ?_;rw[Nat.one_shiftLeft,hil,<- hn];refine go ?_;refine aC rfl (λh3=>?_) (λh3=>?_)
  rotate_left
  ·have hge:g=2^n:=by omega
   subst hge;refine go ?_;exact aj va (hv:=rfl) (hp:=trivial)
  have hgt:g<2^n:=by omega
  have hsucc:=SF (W:=wl l p) (f:=f) (pl:=pl) (fr:=fr) (dn:=dn) hg1;have hmono:=adL (W:=wl l p) (f:=f) (pl:=pl) (fr:=fr) (dn:=dn) (g:=g+1) (g':=2^n) (by omega) (by omega);refine go ?_;refine bE (λi=>n - i) (λi:Nat=>[(43,.int .i64 (i:Int)),(10,.int .i64 (iO (wl l p) fr g i)),(11,.int .i64 (kQ (wl l p) g i)),(12,.int .i64 ((cnt i λk=>g.testBit k:Nat):Int))]) (λ_=>[]) (λ_=>[]) (λi=>i<=n/\clash pl g i=false) 0 ⟨bF _,rfl⟩ (body:=?_);rintro i ⟨hi,hcl⟩;refine go ?_;refine aC rfl (λh4=>?_) (λh4=>?_)
  ·have ajx:=LG i λk=>g.testBit k;have hcs:=wJ i λk=>g.testBit k;refine go ?_;intro _ _ a' ha';obtain⟨a,ha,rfl⟩:=yH ha';have hal:=rX ha;have hx0:l[a]? =some l[a]:=bf hal;refine go ?_;refine(bO rfl rfl (FP (a:=g) (b:=i) rfl rfl (by omega))).h ?_;refine(bO rfl rfl (FQ (b:=1) rfl rfl (Ey (NQ _ _) (by omega)) (by omega))).h ?_;refine go ?_;rw[adU];refine iy rfl (λe1=>?_) (λe1=>?_)
   ·have e1:g.testBit i=false:=by simpa using e1
    have q1:iO (wl l p) fr g (i+1)=iO (wl l p) fr g i:=by rw[SV,e1];rfl
    have q2:kQ (wl l p) g (i+1)=kQ (wl l p) g i:=by rw[Mt,e1];rfl
    have q3:(cnt (i+1) λk=>g.testBit k)=cnt i λk=>g.testBit k:=by rw[hcs,e1];rfl
    rw[<- q1,<- q2,<- q3];refine go ?_;exact aO (i+1) (by omega) ⟨by omega,by rw[Mr,hcl,e1];rfl⟩
   have e1:g.testBit i=true:=by simpa using e1
   rw[e1,if_pos rfl]at hcs;have hx1:pl[i]? =some (pl[i]'(by omega)):=bf _;have hfr:=HV hx1;generalize pl[i]'(by omega)=z at hx1 hfr;refine go ?_;refine jU (o:=0+i*1) (cs:=pl.map (.int .i64)) (.int .i64 z) (by rw[dD,gT,bX,hx1];rfl) ?_;refine go ?_;refine aC rfl (λe2=>?_) (λe2=>?_)
   ·have hck:clash pl g n=true:=adM (i:=i+1) (by omega) (by rw[Mr,hcl,e1,hfr,gz e2];rfl);have hG:wS (wl l p) f pl fr dn g=[]:=by unfold wS mq;rw[jX,hck];rfl
    rw[hG,gQ]at hsucc;rw[<- hsucc];refine go ?_;exact aO (g+1,va) (by show 2^n - (g+1)<2^n - g;omega) ⟨by show 1<=g+1;omega,by show g+1<=2^n;omega⟩
   have e2:z=0:=sG.1 e2;subst e2;obtain⟨o1,o2⟩:=M8 ha hx0;refine go ?_;refine bJ cO (k:=a) (next:=λbx ox x _ hx=>?_);cases hx0.symm.trans hx;refine go ?_;refine cK (dG bx (ox+3) [.int .i64 l[a].lo,.int .i64 l[a].hi,.bool l[a].r]) (λw hw=>Hz (m:=3) (hw _ (bz ..))) ?_;refine(rO (b:=bx) (o:=ox+3) (j:=0) (v:=.int .i64 l[a].lo) rfl rfl rfl (bz ..) rfl).h ?_;refine(bO rfl rfl (nG rfl rfl)).h ?_;refine go ?_;refine bJ cO (k:=a) (next:=λyQ yR x2 _ hx2=>?_);cases hx.symm.trans hx2;refine go ?_;refine cK (dG yQ (yR+3) [.int .i64 l[a].lo,.int .i64 l[a].hi,.bool l[a].r]) (λw hw=>Hz (m:=3) (hw _ (bz ..))) ?_;refine(rO (b:=yQ) (o:=yR+3) (j:=1) (v:=.int .i64 l[a].hi) rfl rfl rfl (bz ..) rfl).h ?_;refine(bO rfl rfl (rR rfl rfl)).h ?_;refine go ?_;have q1:iO (wl l p) fr g (i+1)=max (iO (wl l p) fr g i) l[a].lo:=by rw[SV,e1,o1];rfl
   have q2:kQ (wl l p) g (i+1)=min (kQ (wl l p) g i) l[a].hi:=by rw[Mt,e1,o2];rfl
   rw[<- q1,<- q2,show((cnt i λk=>g.testBit k:Nat):Int)+1=((cnt (i+1) λk=>g.testBit k:Nat):Int)by rw[hcs];rfl];refine go ?_;exact aO (i+1) (by omega) ⟨by omega,by rw[Mr,hcl,e1,hfr];rfl⟩
  have hin:i=n:=by omega
  subst hin;have hcf:=Ap.1 hcl;have agm:0<=iO (wl l p) fr g i:=Int.le_trans h0 (Gi i);have htop:kQ (wl l p) g i<=1048576:=adV;have agn:(cnt i λk=>g.testBit k)=many (wl l p) g:=by unfold many;rw[jX]
  have hmp:=yC (W:=wl l p) (g:=g) (by omega) (by rw[jX];exact hgt);have ajy:many (wl l p) g<=i:=by have:=LG (wl l p).length λk=>g.testBit k;unfold many;omega
  have U6:iO (wl l p) fr g i=jk (wl l p) fr g:=by show _=iO _ _ _ (wl l p).length;rw[jX]
  have U7:kQ (wl l p) g i=LJ (wl l p) g:=by show _=kQ _ _ (wl l p).length;rw[jX]
  rw[agn,U6,U7];rw[U6]at agm;rw[U7]at htop;refine go ?_;refine aC rfl (λe3=>?_) (λe3=>?_)
  ·have hG:wS (wl l p) f pl fr dn g=[]:=by unfold wS mq;rw[gz (by omega),Iw];rfl
   rw[hG,gQ]at hsucc;rw[<- hsucc];refine go ?_;exact aO (g+1,va) (by show 2^i - (g+1)<2^i - g;omega) ⟨by show 1<=g+1;omega,by show g+1<=2^i;omega⟩
  have hok:mq (wl l p) pl fr g=true:=by unfold mq;rw[jX,hcl,eH (by omega)];rfl
  have AV:wS (wl l p) f pl fr dn g=if late (wl l p) pl fr g then[]else mW (wl l p) f (gP pl dn g) (jk (wl l p) fr g+1) (dn+many (wl l p) g):=by unfold wS;rw[hok];rfl
  have hsl:=rV (pl:=pl) (dn:=dn) (g:=g);refine go ?_;refine bE (λy:Nat×Bool=>i - y.1) (λy=>[(86,.int .i64 (y.1:Int)),(15,.bool y.2)]) (λy=>[pt bp (.cells ((kw pl dn g y.1).map (.int .i64)))]) (λ_=>[]) (λy=>y.1<=i/\y.2=DF (wl l p) pl (jk (wl l p) fr g) g y.1) (0,false) ⟨bF _,rfl⟩ (hk:=by
   rw[adO];repeat (first|exact aM.nil|(apply aM.cons;(focus (repeat (first|exact ai.here|apply ai.there)))))) (body:=?_)
  rintro⟨k,b⟩ ⟨hk,hb⟩;dsimp only at hk hb⊢;have ajz:=adQ (pl:=pl) (dn:=dn) (g:=g) (i:=k);refine go ?_;refine aC rfl (λe4=>?_) (λe4=>?_)
  ·have hls:=adN (W:=wl l p) (pl:=pl) (v:=jk (wl l p) fr g) (g:=g) (i:=k);rw[<- hb]at hls;refine go ?_;intro _ _ a' ha';obtain⟨a,ha,rfl⟩:=yH ha';have hal:=rX ha;have hx0:l[a]? =some l[a]:=bf hal;obtain⟨o1,o2⟩:=M8 ha hx0;have hx1:pl[k]? =some (pl[k]'(by omega)):=bf _;have hfr:=HV hx1;have hsg:=adR (pl:=pl) (dn:=dn) (g:=g) (i:=k) (by omega);have hsi:=adS (pl:=pl) (dn:=dn) (g:=g) (i:=k) (by omega);have hso:=adT (pl:=pl) (dn:=dn) (g:=g) (i:=k) (by omega);generalize pl[k]'(by omega)=z at hx1 hfr hsg;rw[hfr,o2]at hls;refine go ?_;refine(bO rfl rfl (FP (a:=g) (b:=k) rfl rfl (by omega))).h ?_;refine(bO rfl rfl (FQ (b:=1) rfl rfl (Ey (NQ _ _) (by omega)) (by omega))).h ?_;refine go ?_;rw[Ms];cases hbit:g.testBit k with
   |true=>
    rw[hbit]at hls;have hsi:=hsi hbit;cases b with
    |true=>
     refine go ?_;refine p9 (o:=0+k*1) (cs:=(kw pl dn g k).map (.int .i64)) (cs':=(kw pl dn g (k+1)).map (.int .i64)) (v:=.int .i64 ((dn:Int)+1)) (by rw[dD,gT,<- hsi,pI]) (by rw[bC];omega) ?_;refine go ?_;exact aO (k+1,true) (by show i - (k+1)<i - k;omega) ⟨by show k+1<=i;omega,by show true=_;rw[hls];simp⟩
    |false=>
     refine go ?_;refine p9 (o:=0+k*1) (cs:=(kw pl dn g k).map (.int .i64)) (cs':=(kw pl dn g (k+1)).map (.int .i64)) (v:=.int .i64 ((dn:Int)+1)) (by rw[dD,gT,<- hsi,pI]) (by rw[bC];omega) ?_;refine go ?_;exact aO (k+1,false) (by show i - (k+1)<i - k;omega) ⟨by show k+1<=i;omega,by show false=_;rw[hls];simp⟩
   |false=>
    rw[hbit]at hls;have hso:=hso hbit;cases b with
    |true=>
     refine go ?_;rw[<- hso];exact aO (k+1,true) (by show i - (k+1)<i - k;omega) ⟨by show k+1<=i;omega,by show true=_;rw[hls];simp⟩
    |false=>
     refine go ?_;refine jU (o:=0+k*1) (cs:=(kw pl dn g k).map (.int .i64)) (.int .i64 z) (by rw[dD,gT,bX,hsg];rfl) ?_;refine go ?_;refine gG (λe5=>?_) (λe5=>?_)
     ·rw[gz e5]at hls;refine go ?_;rw[<- hso];exact aO (k+1,false) (by show i - (k+1)<i - k;omega) ⟨by show k+1<=i;omega,by show false=_;rw[hls];simp⟩
     ·rw[eH e5]at hls;refine go ?_;refine bJ cO (k:=a) (next:=λbx ox x _ hx=>?_);cases hx0.symm.trans hx;refine go ?_;refine cK (dG bx (ox+3) [.int .i64 l[a].lo,.int .i64 l[a].hi,.bool l[a].r]) (λw hw=>Hz (m:=3) (hw _ (bz ..))) ?_;refine(rO (b:=bx) (o:=ox+3) (j:=1) (v:=.int .i64 l[a].hi) rfl rfl rfl (bz ..) rfl).h ?_;refine go ?_;rw[<- hso];exact aO (k+1,decide (l[a].hi<=jk (wl l p) fr g)) (by show i - (k+1)<i - k;omega) ⟨by show k+1<=i;omega,by show decide (l[a].hi<=jk (wl l p) fr g)=_;rw[hls];simp⟩
  have hki:k=i:=by omega
  subst hki;rw[<- hpl,adP];have hlt:b=late (wl l p) pl fr g:=by rw[hb];unfold late DF;rw[jX]
  rw[<- hlt]at AV;cases b with
  |true=>
   rw[if_pos rfl]at AV;rw[AV,gQ]at hsucc;rw[<- hsucc];refine go ?_;refine bE (λi=>pl.length - i) (λi:Nat=>[(136,.int .i64 (i:Int))]) (λi=>[pt bp (.cells ((lJ pl dn g i).map (.int .i64)))]) (λ_=>[]) (λi=>i<=pl.length) 0 (bF _) (hk:=by
    rw[SK];repeat (first|exact aM.nil|(apply aM.cons;(focus (repeat (first|exact ai.here|apply ai.there)))))) (body:=?_)
   intro i hi;have hrl:=SN (pl:=pl) (dn:=dn) (g:=g) (i:=i);refine go ?_;refine aC rfl (λe1=>?_) (λe1=>?_)
   ·refine go ?_;refine(bO rfl rfl (FP (a:=g) (b:=i) rfl rfl (by omega))).h ?_;refine(bO rfl rfl (FQ (b:=1) rfl rfl (Ey (NQ _ _) (by omega)) (by omega))).h ?_;refine go ?_;rw[Ms];refine iy rfl (λe2=>?_) (λe2=>?_)
    ·have hz:pl[i]'(by omega)=0:=by
      have:=hcf i (by omega) e2;rw[HV (bf (by omega))]at this;exact nX this
     refine go ?_;refine p9 (o:=0+i*1) (cs:=(lJ pl dn g i).map (.int .i64)) (cs':=(lJ pl dn g (i+1)).map (.int .i64)) (v:=.int .i64 0) (by rw[dD,gT,<- SQ (by omega) hz,pI]) (by rw[bC];omega) ?_;refine go ?_;exact aO (i+1) (by omega) (by omega)
    ·rw[<- SS (pl:=pl) (dn:=dn) (g:=g) (i:=i) (by omega) e2];refine go ?_;exact aO (i+1) (by omega) (by omega)
   have hin:i=pl.length:=by omega
   subst hin;rw[SL];refine go ?_;exact aO (g+1,va) (by show 2^pl.length - (g+1)<2^pl.length - g;rw[hpl];omega) ⟨by show 1<=g+1;omega,by show g+1<=2^pl.length;rw[hpl];omega⟩
  |false=>
   rw[if_neg (by simp)]at AV;rw[hsucc,dW,AV]at hmono;refine go ?_;rw[show(dn:Int)+(many (wl l p) g:Int)=((dn+many (wl l p) g:Nat):Int)by omega];refine aD (ih (pl:=gP pl dn g) (fr:=jk (wl l p) fr g+1) (dn:=dn+many (wl l p) g) (acc:=acc++si (wl l p) f pl fr dn g) (va:=va) (st.next (by rw[jX];exact hcl)) (by omega) (by omega) (by omega) (by rw[dW];omega)) (next:=λva _=>?_);rw[ik,<- AV,<- hsucc];refine go ?_;refine bE (λi=>pl.length - i) (λi:Nat=>[(136,.int .i64 (i:Int))]) (λi=>[pt bp (.cells ((lJ pl dn g i).map (.int .i64)))]) (λ_=>[]) (λi=>i<=pl.length) 0 (bF _) (hk:=by
    rw[SK];repeat (first|exact aM.nil|(apply aM.cons;(focus (repeat (first|exact ai.here|apply ai.there)))))) (body:=?_)
   intro i hi;have hrl:=SN (pl:=pl) (dn:=dn) (g:=g) (i:=i);refine go ?_;refine aC rfl (λe1=>?_) (λe1=>?_)
   ·refine go ?_;refine(bO rfl rfl (FP (a:=g) (b:=i) rfl rfl (by omega))).h ?_;refine(bO rfl rfl (FQ (b:=1) rfl rfl (Ey (NQ _ _) (by omega)) (by omega))).h ?_;refine go ?_;rw[Ms];refine iy rfl (λe2=>?_) (λe2=>?_)
    ·have hz:pl[i]'(by omega)=0:=by
      have:=hcf i (by omega) e2;rw[HV (bf (by omega))]at this;exact nX this
     refine go ?_;refine p9 (o:=0+i*1) (cs:=(lJ pl dn g i).map (.int .i64)) (cs':=(lJ pl dn g (i+1)).map (.int .i64)) (v:=.int .i64 0) (by rw[dD,gT,<- SQ (by omega) hz,pI]) (by rw[bC];omega) ?_;refine go ?_;exact aO (i+1) (by omega) (by omega)
    ·rw[<- SS (pl:=pl) (dn:=dn) (g:=g) (i:=i) (by omega) e2];refine go ?_;exact aO (i+1) (by omega) (by omega)
   have hin:i=pl.length:=by omega
   subst hin;rw[SL];refine go ?_;exact aO (g+1,va) (by show 2^pl.length - (g+1)<2^pl.length - g;rw[hpl];omega) ⟨by show 1<=g+1;omega,by show g+1<=2^pl.length;rw[hpl];omega⟩
theorem agp{vl vo:Value}{l:List aG}{p:Int}{s:aT}(hr:∀x∈l,iW s x)(Eb:l.length<=32)(hn:(aL l p).length<=4):
 bD Tryz.prog (.func 43) [vl,vo] [] [] [ah cO vl l,ah ae vo (ints (aL l p))] (λv:Value=>v) (λ_=>[]) (λv=>[ah (aI ae) v (jd (wl l p))]) (λ_=>True):=by
 have jX:=mY l p;have hil:=tN (aL l p);have htop:∀i,i<(wl l p).length->hi (wl l p) i<=kv:=λi hi=>(mZ hr hi).2.2;have hlen:=Gj htop (by omega);refine aX _ (bN 43) λB w0=>?_;refine gH (E:=cO) (v:=vl) (xs:=l) (by simp) λal cl el=>?_;refine gH (E:=ae) (v:=vo) (xs:=ints (aL l p)) (by simp) λao co eo=>?_;subst el eo;refine go ?_;intro b2 b3 b4;refine go ?_;refine FT (aL l p).length ⟨by omega,by omega,by omega⟩ (hx:=by show Value.int .i64 _=_;rw[hil]) (hy:=by show Value.int .i64 _=_;rw[hil]) (λbp=>?_);rw[MX];refine go ?_;intro b5;refine go ?_;intro b6;refine go ?_;refine bG (eP (b:=b2)) (h:=?_);refine bG (eP (b:=b3)) (h:=?_);refine bG (eP (b:=b5)) (h:=?_);refine bG (eP (b:=b6)) (h:=?_);refine nE (aI ae) ?_;have hz:List.replicate (aL l p).length (0:Int)=oO (wl l p):=by unfold oO;rw[jX]
 rw[hz];refine aD (agj (vl:=.slice al l.length cl) (vo:=.slice ao (ints (aL l p)).length co) (l:=l) (p:=p) (s:=s) (bo:=b3) (ba:=b4) (bq:=b5) (bp:=bp) (bl:=b2) (bn:=b6) hr Eb rfl (by omega) (wl l p).length (pl:=oO (wl l p)) (fr:=0) (dn:=0) (acc:=[]) (va:=.slice none 0 0) (Au htop 0) (by omega) (by omega) (by omega) (by rw[ql,dD];exact dz hlen (by decide))) (next:=λv _=>?_);refine bG (A:=ap (aI ae) v ([]++mW (wl l p) (wl l p).length (oO (wl l p)) 0 0)) (fs:=[ah (aI ae) v (jd (wl l p))]) pX (h:=?_);refine gH (E:=aI ae) (v:=v) (xs:=jd (wl l p)) (by simp) λav cv ev=>?_;subst ev;refine go ?_;exact aj (.slice av (jd (wl l p)).length cv) (hv:=rfl) (hp:=trivial)
