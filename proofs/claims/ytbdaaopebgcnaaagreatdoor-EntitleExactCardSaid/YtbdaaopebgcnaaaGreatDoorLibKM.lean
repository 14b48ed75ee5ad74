/-
  ref53: less; ref13.In: towards Orders.
-/
import Derived.Test.YtbdaaopebgcnaaaGreatDoorLibJM
import Derived.Test.YtbdaaopebgcnaaaGreatDoorPlainBM
set_option linter.all false
set_option maxRecDepth 10000
set_option maxHeartbeats 4000000
namespace Go.Proofs.YtbdaaopebgcnaaaGreatDoor
open Go.Ideal Rk
end Go.Proofs.YtbdaaopebgcnaaaGreatDoor
namespace Go.Proofs.YtbdaaopebgcnaaaGreatDoor
open Go.Ideal Rk
section
variable {P:Program} {B:List Nat} {w0:Wd} {kl fq:List OA} {F:List aD} {K:KO} {ds:List Tmp} {rest:List aW} {n:Nat} {l:List (Nat×Value)} {D:List Deferred} {pm:Option FrameMode} {ro:Option Nat} {d:Nat} {g:Option (Tmp×Bool)}
theorem agc{e:TypeId}{bytes b bx m:Nat}{s x:Operand}{cs:List Value}(hne:0<cs.length)(hm:cs.length*bytes<=1073741824/\cs.length<=1073741824)(hmc:m=cs.length)
 (next:∀b',R (λh=>aA P ds rest (act n ((d,.slice (some ⟨b',0,some 1⟩) m m)::l) D pm ro) h K) B w0 (pt b' (.cells cs)::pt bx (.cells cs)::fq) F)
 (hk:aI [pt b (.cells []),pt bx (.cells cs)] kl fq) (hs:ev l s=.slice (some ⟨b,0,some 0⟩) 0 0:=by rfl) (hx:ev l x=.slice (some ⟨bx,0,some 0⟩) m m:=by rfl) (hn:Nat.blt d n=true:=by rfl) (hg:bH l g=true:=by rfl):
 R (λh=>aA P ds (⟨⟨some d,g,.append e 1 bytes s x⟩,[]⟩::rest) (act n l D pm ro) h K) B w0 kl F:=λw st=>by
 subst hmc;have st1:St B w0 (pt b (.cells [])::pt bx (.cells cs)::fq) F w:=st.jJ hk;have hat:At w.h b (.cells []):=st1.at_ .here;have agd:At w.h bx (.cells cs):=st1.at_ (.there .here);obtain⟨k,hk'⟩:∃k,cs.length=k+1:=⟨cs.length - 1,by omega⟩
 have hread:w.h.dV bx 0 (cs.length*1)=some cs:=by
  rw[agd.c.dV,jO,jP,fV,sj,if_pos (aG _),gV]
 refine C9 (b:=b) (o:=0) (m:=0) (k:=k) (f:=some 0) (old:=[]) (xs:=cs) hn hg hs (by rw[hx,hk'];rfl) ?_ ?_ (.inl rfl) ?_ λh' mv=>?_
 ·rw[hx,<- hk'];exact hread
 ·rw[hat.c.dV];rfl
 ·rw[bG,<- hk'];omega
 obtain⟨w',rfl,dO,pG⟩:=st1.move mv;rw[dI]at dO;have:=next w.h.next w' dO
 rw[hk']at this;rw[bG];exact this
end
theorem Vr{bp m:Nat}{xs:List Int}(hm:m=xs.length)(hl:xs.length<=1000000):aX Tryz.prog (.func 50) [.slice (some ⟨bp,0,some 0⟩) m m] [] [pt bp (.cells (xs.map (.int .i64)))] [] (λv:Value=>v) (λ_=>[pt bp (.cells (xs.map (.int .i64)))]) (λv=>[ae ah v xs]) (λ_=>True):=by
 subst hm;refine aT Nh UO λB w0=>?_;refine go ?_;refine(bC rfl rfl (G6 (e:=3) (by kernel_rfl) rfl)).h ?_;refine go ?_;intro b5;refine go ?_;by_cases h0:xs=[]
 ·subst h0;refine RD ?_ (b:=b5);refine go ?_;refine bP (A:=pt b5 (.cells [])) (fs:=[ae ah (.slice (some ⟨b5,0,some 0⟩) 0 0) ([]:List Int)]) (pF (b:=b5) (f:=0) (c:=0) (xs:=[])) (h:=?_);exact aj (.slice (some ⟨b5,0,some 0⟩) 0 0) (hv:=rfl) (hp:=trivial)
 have h0:0<xs.length:=uh.2 h0;refine agc (b:=b5) (bx:=bp) (cs:=xs.map (.int .i64)) (by rw[bI];exact h0) (by rw[bI];omega) (by rw[bI]) (λb'=>?_) (hk:=.cons .here (.cons .here .nil));refine go ?_;refine bP (A:=pt b' (.cells (xs.map (.int .i64)))) (fs:=[ae ah (.slice (some ⟨b',0,some 1⟩) xs.length xs.length) xs]) (pF (b:=b') (f:=1) (c:=xs.length) (xs:=xs)) (h:=?_);exact aj (.slice (some ⟨b',0,some 1⟩) xs.length xs.length) (hv:=rfl) (hp:=trivial)
abbrev nxF(vl vo:Value)(l:List ak)(own:List Nat)(bo ba bq bp bl bn:Nat):List aD:=
 [bW bo 0 [vo],bW bq 0 [.slice (some ⟨bp,0,some 0⟩) own.length own.length],bW bl 0 [vl],bW bn 0 [.func (.func 67) ⟨[]⟩ ⟨[ptr' bo,ptr' ba,ptr' bq,ptr' bl,ptr' bn]⟩],ae ah vo (ints own),ae aZ vl l]
theorem Vs{l:List ak}{p:Int}{k i:Nat}(h:(aO l p)[k]? =some i){x:ak}(hx:l[i]? =some x):lo (wl l p) k=x.lo/\hi (wl l p) k=x.hi:=by
 have:=Bh h;rw[show l.getD i dR=x by rw[iA,hx];rfl]at this;unfold lo hi;rw[iA,this];exact⟨rfl,rfl⟩
theorem qC{w:Wd}{b o m:Nat}{cs:List Value}(h:(bW b o cs).p w):(bW b (o+m) (cs.drop m)).p w:=by
 obtain⟨cells,h1,h2⟩:=h;refine⟨cells,h1,λj u hj=>?_⟩;rw[jf]at hj;rw[kX];exact h2 _ u hj
theorem IU{pl:List Int}{i:Nat}{x:Int}(h:pl[i]? =some x):fH pl i=decide (x=0):=by
 show decide (pl.getD i 0=0)=_;rw[iA,h];rfl
theorem agf{vl vo:Value}{l:List ak}{p:Int}{s:aK}{n:Nat}{bo ba bq bp bl bn:Nat}(hr:∀x∈l,iq s x)(Vt:l.length<=32)(hn:n=(aO l p).length)(hn8:n<=8):∀(f:Nat) {pl:List Int} {fr:Int} {dn:Nat} {acc:List (List Int)} {va:Value},rO (wl l p) pl fr dn->n<=dn+f->0<=fr->fr<=1048577->
 acc.length+(nG (wl l p) f pl fr dn).length<=4096->
 aX Tryz.prog (.func 67) [.int .i64 (dn:Int),.int .i64 fr] [ptr' bo,ptr' ba,ptr' bq,ptr' bl,ptr' bn] [pt ba (.cells [va]),ap (bN ah) va acc,pt bp (.cells (pl.map (.int .i64)))] (nxF vl vo l (aO l p) bo ba bq bp bl bn)
  (λ_:Value=>.tuple ⟨[]⟩) (λVu=>[pt ba (.cells [Vu]),ap (bN ah) Vu (acc++nG (wl l p) f pl fr dn),pt bp (.cells (pl.map (.int .i64)))]) (λ_=>[]) (λ_=>True):=by
 have oK:(wl l p).length=n:=by rw[qy,hn]
 have hil:=om (aO l p);intro f;induction f with
 |zero=>
  intro pl fr dn acc va st hf h0 h1 hacc;have hdn:dn=n:=by have:=st.tot;omega
  rw[Tz (by omega)]at hacc⊢;simp only[su]at hacc;have hpl:pl.length=n:=by rw[st.len,oK]
  refine aT _ (bz 67) λB w0=>?_;refine go ?_;refine aC rfl (λh2=>?_) (λh2=>?_)
  ·refine go ?_;refine aC rfl (λh3=>?_) (λh3=>?_)
   ·exfalso;omega
   refine go ?_;refine aB (Vr (bp:=bp) (m:=(aO l p).length) (xs:=pl) (by omega) (by omega)) (next:=λvc _=>?_);refine eY (E:=ah) (v:=vc) (xs:=pl) (by simp) λav cv ev=>?_;subst ev;refine go ?_;intro b31;refine go ?_;refine lY (xs:=acc) (bN ah) pl (.slice av pl.length cv) (by omega) (next:=λad=>?_);refine go ?_;exact aj (.slice ad (acc.length+1) (acc.length+1)) (hv:=rfl) (hp:=trivial)
  ·exfalso;omega
 |succ f ih=>
  intro pl fr dn acc va st hf h0 h1 hacc;have hpl:pl.length=n:=by rw[st.len,oK]
  refine aT _ (bz 67) λB w0=>?_;refine go ?_;refine aC rfl (λh2=>?_) (λh2=>?_)
  ·have hdn:dn=n:=by omega
   rw[Tz (by omega)]at hacc⊢;simp only[su]at hacc;refine go ?_;refine aC rfl (λh3=>?_) (λh3=>?_)
   ·exfalso;omega
   refine go ?_;refine aB (Vr (bp:=bp) (m:=(aO l p).length) (xs:=pl) (by omega) (by omega)) (next:=λvc _=>?_);refine eY (E:=ah) (v:=vc) (xs:=pl) (by simp) λav cv ev=>?_;subst ev;refine go ?_;intro b31;refine go ?_;refine lY (xs:=acc) (bN ah) pl (.slice av pl.length cv) (by omega) (next:=λad=>?_);refine go ?_;exact aj (.slice ad (acc.length+1) (acc.length+1)) (hv:=rfl) (hp:=trivial)
  have hdn:dn≠(wl l p).length:=by omega
  have hdl:dn<n:=by have:=st.tot;omega
  rw[adY hdn]at hacc⊢;have hp2:1<2^n:=Nat.one_lt_two_pow (by omega);have oJ:2^n<=256:=Nat.pow_le_pow_right (n:=2) (by decide) hn8;rw[oK]at hacc⊢;refine go ?_;refine bR (λy:Nat×Value=>2^n - y.1) (λy=>[(9,.int .i64 (y.1:Int))]) (λy=>[pt ba (.cells [y.2]),ap (bN ah) y.2 (acc++tN (wl l p) f pl fr dn y.1),pt bp (.cells (pl.map (.int .i64)))]) (λ_=>[]) (λy=>1<=y.1/\y.1<=2^n) (1,va) ⟨aG _,by omega⟩ (hk:=by
   rw[adX,fU];repeat (first|exact aI.nil|(apply aI.cons;(focus (repeat (first|exact ai.here|apply ai.there)))))) (body:=?_)
  rintro⟨g,va⟩ ⟨hg1,hg2⟩;dsimp only at hg1 hg2⊢;refine go ?_;refine(bC rfl rfl (Lt (a:=1) (b:=(ints (aO l p)).length) rfl rfl (by omega) (by rw[EQ,hil,<- hn];omega))).h ?_;rw[EQ,hil,<- hn];refine go ?_;refine aC rfl (λh3=>?_) (λh3=>?_)
  rotate_left
  ·have hge:g=2^n:=by omega
   subst hge;refine go ?_;exact aj va (hv:=rfl) (hp:=trivial)
  have hgt:g<2^n:=by omega
  have hsucc:=Ty (W:=wl l p) (f:=f) (pl:=pl) (fr:=fr) (dn:=dn) hg1;have hmono:=adZ (W:=wl l p) (f:=f) (pl:=pl) (fr:=fr) (dn:=dn) (g:=g+1) (g':=2^n) (by omega) (by omega);refine go ?_;refine bR (λi=>n - i) (λi:Nat=>[(43,.int .i64 (i:Int)),(10,.int .i64 (kR (wl l p) fr g i)),(11,.int .i64 (lq (wl l p) g i)),(12,.int .i64 ((cnt i λk=>g.testBit k:Nat):Int))]) (λ_=>[]) (λ_=>[]) (λi=>i<=n/\clash pl g i=false) 0 ⟨cu _,rfl⟩ (body:=?_);rintro i ⟨hi,hcl⟩;refine go ?_;refine aC rfl (λh4=>?_) (λh4=>?_)
  ·have ajL:=Mf i λk=>g.testBit k;have hcs:=xD i λk=>g.testBit k;refine go ?_;intro _ _ a' ha';obtain⟨a,ha,rfl⟩:=vP ha';have hal:=vT ha;have hx0:l[a]? =some l[a]:=bB hal;refine go ?_;refine(bC rfl rfl (AC (a:=g) (b:=i) rfl rfl (by omega))).h ?_;refine(bC rfl rfl (AJ (b:=1) rfl rfl (zy (ER _ _) (by omega)) (by omega))).h ?_;refine go ?_;rw[ad9];refine iW rfl (λe1=>?_) (λe1=>?_)
   ·have e1:g.testBit i=false:=by simpa using e1
    have q1:kR (wl l p) fr g (i+1)=kR (wl l p) fr g i:=by rw[TH,e1];rfl
    have q2:lq (wl l p) g (i+1)=lq (wl l p) g i:=by rw[MM,e1];rfl
    have q3:(cnt (i+1) λk=>g.testBit k)=cnt i λk=>g.testBit k:=by rw[hcs,e1];rfl
    rw[<- q1,<- q2,<- q3];refine go ?_;exact aL (i+1) (by omega) ⟨by omega,by rw[ML,hcl,e1];rfl⟩
   have e1:g.testBit i=true:=by simpa using e1
   rw[e1,if_pos rfl]at hcs;have hx1:pl[i]? =some (pl[i]'(by omega)):=bB _;have hfr:=IU hx1;generalize pl[i]'(by omega)=z at hx1 hfr;refine go ?_;refine gp (o:=0+i*1) (cs:=pl.map (.int .i64)) (.int .i64 z) (by rw[bG,fV,bU,hx1];rfl) ?_;refine go ?_;refine aC rfl (λe2=>?_) (λe2=>?_)
   ·have hck:clash pl g n=true:=ad1 (i:=i+1) (by omega) (by rw[ML,hcl,e1,hfr,fB e2];rfl);have hG:xK (wl l p) f pl fr dn g=[]:=by unfold xK nE;rw[oK,hck];rfl
    rw[hG,fU]at hsucc;rw[<- hsucc];refine go ?_;exact aL (g+1,va) (by show 2^n - (g+1)<2^n - g;omega) ⟨by show 1<=g+1;omega,by show g+1<=2^n;omega⟩
   have e2:z=0:=qd.1 e2;subst e2;obtain⟨o1,o2⟩:=Vs ha hx0;refine go ?_;refine cZ aZ (k:=a) (next:=λbx ox x _ hx=>?_);cases hx0.symm.trans hx;refine go ?_;refine bJ (bW bx (ox+3) [.int .i64 l[a].lo,.int .i64 l[a].hi,.bool l[a].r]) (λw hw=>qC (m:=3) (hw _ (aR ..))) ?_;refine(ko (b:=bx) (o:=ox+3) (j:=0) (v:=.int .i64 l[a].lo) rfl rfl rfl (aR ..) rfl).h ?_;refine(bC rfl rfl (qm rfl rfl)).h ?_;refine go ?_;refine cZ aZ (k:=a) (next:=λoH oI x2 _ hx2=>?_);cases hx.symm.trans hx2;refine go ?_;refine bJ (bW oH (oI+3) [.int .i64 l[a].lo,.int .i64 l[a].hi,.bool l[a].r]) (λw hw=>qC (m:=3) (hw _ (aR ..))) ?_;refine(ko (b:=oH) (o:=oI+3) (j:=1) (v:=.int .i64 l[a].hi) rfl rfl rfl (aR ..) rfl).h ?_;refine(bC rfl rfl (uC rfl rfl)).h ?_;refine go ?_;have q1:kR (wl l p) fr g (i+1)=max (kR (wl l p) fr g i) l[a].lo:=by rw[TH,e1,o1];rfl
   have q2:lq (wl l p) g (i+1)=min (lq (wl l p) g i) l[a].hi:=by rw[MM,e1,o2];rfl
   rw[<- q1,<- q2,show((cnt i λk=>g.testBit k:Nat):Int)+1=((cnt (i+1) λk=>g.testBit k:Nat):Int)by rw[hcs];rfl];refine go ?_;exact aL (i+1) (by omega) ⟨by omega,by rw[ML,hcl,e1,hfr];rfl⟩
  have hin:i=n:=by omega
  subst hin;have hcf:=A8.1 hcl;have agj:0<=kR (wl l p) fr g i:=Int.le_trans h0 (Hy i);have htop:lq (wl l p) g i<=1048576:=aea;have agk:(cnt i λk=>g.testBit k)=many (wl l p) g:=by unfold many;rw[oK]
  have hmp:=Ba (W:=wl l p) (g:=g) (by omega) (by rw[oK];exact hgt);have ajM:many (wl l p) g<=i:=by have:=Mf (wl l p).length λk=>g.testBit k;unfold many;omega
  have Vv:kR (wl l p) fr g i=jT (wl l p) fr g:=by show _=kR _ _ _ (wl l p).length;rw[oK]
  have Vw:lq (wl l p) g i=Mh (wl l p) g:=by show _=lq _ _ (wl l p).length;rw[oK]
  rw[agk,Vv,Vw];rw[Vv]at agj;rw[Vw]at htop;refine go ?_;refine aC rfl (λe3=>?_) (λe3=>?_)
  ·have hG:xK (wl l p) f pl fr dn g=[]:=by unfold xK nE;rw[fB (by omega),EP];rfl
   rw[hG,fU]at hsucc;rw[<- hsucc];refine go ?_;exact aL (g+1,va) (by show 2^i - (g+1)<2^i - g;omega) ⟨by show 1<=g+1;omega,by show g+1<=2^i;omega⟩
  have hok:nE (wl l p) pl fr g=true:=by unfold nE;rw[oK,hcl,eP (by omega)];rfl
  have Bt:xK (wl l p) f pl fr dn g=if late (wl l p) pl fr g then[]else nG (wl l p) f (iF pl dn g) (jT (wl l p) fr g+1) (dn+many (wl l p) g):=by unfold xK;rw[hok];rfl
  have hsl:=tJ (pl:=pl) (dn:=dn) (g:=g);refine go ?_;refine bR (λy:Nat×Bool=>i - y.1) (λy=>[(86,.int .i64 (y.1:Int)),(15,.bool y.2)]) (λy=>[pt bp (.cells ((kU pl dn g y.1).map (.int .i64)))]) (λ_=>[]) (λy=>y.1<=i/\y.2=DJ (wl l p) pl (jT (wl l p) fr g) g y.1) (0,false) ⟨cu _,rfl⟩ (hk:=by
   rw[ad3];repeat (first|exact aI.nil|(apply aI.cons;(focus (repeat (first|exact ai.here|apply ai.there)))))) (body:=?_)
  rintro⟨k,b⟩ ⟨hk,hb⟩;dsimp only at hk hb⊢;have ajN:=ad5 (pl:=pl) (dn:=dn) (g:=g) (i:=k);refine go ?_;refine aC rfl (λe4=>?_) (λe4=>?_)
  ·have hls:=ad2 (W:=wl l p) (pl:=pl) (v:=jT (wl l p) fr g) (g:=g) (i:=k);rw[<- hb]at hls;refine go ?_;intro _ _ a' ha';obtain⟨a,ha,rfl⟩:=vP ha';have hal:=vT ha;have hx0:l[a]? =some l[a]:=bB hal;obtain⟨o1,o2⟩:=Vs ha hx0;have hx1:pl[k]? =some (pl[k]'(by omega)):=bB _;have hfr:=IU hx1;have hsg:=ad6 (pl:=pl) (dn:=dn) (g:=g) (i:=k) (by omega);have hsi:=ad7 (pl:=pl) (dn:=dn) (g:=g) (i:=k) (by omega);have hso:=ad8 (pl:=pl) (dn:=dn) (g:=g) (i:=k) (by omega);generalize pl[k]'(by omega)=z at hx1 hfr hsg;rw[hfr,o2]at hls;refine go ?_;refine(bC rfl rfl (AC (a:=g) (b:=k) rfl rfl (by omega))).h ?_;refine(bC rfl rfl (AJ (b:=1) rfl rfl (zy (ER _ _) (by omega)) (by omega))).h ?_;refine go ?_;rw[DK];cases hbit:g.testBit k with
   |true=>
    rw[hbit]at hls;have hsi:=hsi hbit;cases b with
    |true=>
     refine go ?_;refine jk (o:=0+k*1) (cs:=(kU pl dn g k).map (.int .i64)) (cs':=(kU pl dn g (k+1)).map (.int .i64)) (v:=.int .i64 ((dn:Int)+1)) (by rw[bG,fV,<- hsi,lS]) (by rw[bI];omega) ?_;refine go ?_;exact aL (k+1,true) (by show i - (k+1)<i - k;omega) ⟨by show k+1<=i;omega,by show true=_;rw[hls];simp⟩
    |false=>
     refine go ?_;refine jk (o:=0+k*1) (cs:=(kU pl dn g k).map (.int .i64)) (cs':=(kU pl dn g (k+1)).map (.int .i64)) (v:=.int .i64 ((dn:Int)+1)) (by rw[bG,fV,<- hsi,lS]) (by rw[bI];omega) ?_;refine go ?_;exact aL (k+1,false) (by show i - (k+1)<i - k;omega) ⟨by show k+1<=i;omega,by show false=_;rw[hls];simp⟩
   |false=>
    rw[hbit]at hls;have hso:=hso hbit;cases b with
    |true=>
     refine go ?_;rw[<- hso];exact aL (k+1,true) (by show i - (k+1)<i - k;omega) ⟨by show k+1<=i;omega,by show true=_;rw[hls];simp⟩
    |false=>
     refine go ?_;refine gp (o:=0+k*1) (cs:=(kU pl dn g k).map (.int .i64)) (.int .i64 z) (by rw[bG,fV,bU,hsg];rfl) ?_;refine go ?_;refine gG (λe5=>?_) (λe5=>?_)
     ·rw[fB e5]at hls;refine go ?_;rw[<- hso];exact aL (k+1,false) (by show i - (k+1)<i - k;omega) ⟨by show k+1<=i;omega,by show false=_;rw[hls];simp⟩
     ·rw[eP e5]at hls;refine go ?_;refine cZ aZ (k:=a) (next:=λbx ox x _ hx=>?_);cases hx0.symm.trans hx;refine go ?_;refine bJ (bW bx (ox+3) [.int .i64 l[a].lo,.int .i64 l[a].hi,.bool l[a].r]) (λw hw=>qC (m:=3) (hw _ (aR ..))) ?_;refine(ko (b:=bx) (o:=ox+3) (j:=1) (v:=.int .i64 l[a].hi) rfl rfl rfl (aR ..) rfl).h ?_;refine go ?_;rw[<- hso];exact aL (k+1,decide (l[a].hi<=jT (wl l p) fr g)) (by show i - (k+1)<i - k;omega) ⟨by show k+1<=i;omega,by show decide (l[a].hi<=jT (wl l p) fr g)=_;rw[hls];simp⟩
  have hki:k=i:=by omega
  subst hki;rw[<- hpl,ad4];have hlt:b=late (wl l p) pl fr g:=by rw[hb];unfold late DJ;rw[oK]
  rw[<- hlt]at Bt;cases b with
  |true=>
   rw[if_pos rfl]at Bt;rw[Bt,fU]at hsucc;rw[<- hsucc];refine go ?_;refine bR (λi=>pl.length - i) (λi:Nat=>[(136,.int .i64 (i:Int))]) (λi=>[pt bp (.cells ((mh pl dn g i).map (.int .i64)))]) (λ_=>[]) (λi=>i<=pl.length) 0 (cu _) (hk:=by
    rw[TC];repeat (first|exact aI.nil|(apply aI.cons;(focus (repeat (first|exact ai.here|apply ai.there)))))) (body:=?_)
   intro i hi;have hrl:=TE (pl:=pl) (dn:=dn) (g:=g) (i:=i);refine go ?_;refine aC rfl (λe1=>?_) (λe1=>?_)
   ·refine go ?_;refine(bC rfl rfl (AC (a:=g) (b:=i) rfl rfl (by omega))).h ?_;refine(bC rfl rfl (AJ (b:=1) rfl rfl (zy (ER _ _) (by omega)) (by omega))).h ?_;refine go ?_;rw[DK];refine iW rfl (λe2=>?_) (λe2=>?_)
    ·have hz:pl[i]'(by omega)=0:=by
      have:=hcf i (by omega) e2;rw[IU (bB (by omega))]at this;exact si this
     refine go ?_;refine jk (o:=0+i*1) (cs:=(mh pl dn g i).map (.int .i64)) (cs':=(mh pl dn g (i+1)).map (.int .i64)) (v:=.int .i64 0) (by rw[bG,fV,<- TF (by omega) hz,lS]) (by rw[bI];omega) ?_;refine go ?_;exact aL (i+1) (by omega) (by omega)
    ·rw[<- TG (pl:=pl) (dn:=dn) (g:=g) (i:=i) (by omega) e2];refine go ?_;exact aL (i+1) (by omega) (by omega)
   have hin:i=pl.length:=by omega
   subst hin;rw[TD];refine go ?_;exact aL (g+1,va) (by show 2^pl.length - (g+1)<2^pl.length - g;rw[hpl];omega) ⟨by show 1<=g+1;omega,by show g+1<=2^pl.length;rw[hpl];omega⟩
  |false=>
   rw[if_neg (by simp)]at Bt;rw[hsucc,dN,Bt]at hmono;refine go ?_;rw[show(dn:Int)+(many (wl l p) g:Int)=((dn+many (wl l p) g:Nat):Int)by omega];refine aB (ih (pl:=iF pl dn g) (fr:=jT (wl l p) fr g+1) (dn:=dn+many (wl l p) g) (acc:=acc++tN (wl l p) f pl fr dn g) (va:=va) (st.next (by rw[oK];exact hcl)) (by omega) (by omega) (by omega) (by rw[dN];omega)) (next:=λva _=>?_);rw[ig,<- Bt,<- hsucc];refine go ?_;refine bR (λi=>pl.length - i) (λi:Nat=>[(136,.int .i64 (i:Int))]) (λi=>[pt bp (.cells ((mh pl dn g i).map (.int .i64)))]) (λ_=>[]) (λi=>i<=pl.length) 0 (cu _) (hk:=by
    rw[TC];repeat (first|exact aI.nil|(apply aI.cons;(focus (repeat (first|exact ai.here|apply ai.there)))))) (body:=?_)
   intro i hi;have hrl:=TE (pl:=pl) (dn:=dn) (g:=g) (i:=i);refine go ?_;refine aC rfl (λe1=>?_) (λe1=>?_)
   ·refine go ?_;refine(bC rfl rfl (AC (a:=g) (b:=i) rfl rfl (by omega))).h ?_;refine(bC rfl rfl (AJ (b:=1) rfl rfl (zy (ER _ _) (by omega)) (by omega))).h ?_;refine go ?_;rw[DK];refine iW rfl (λe2=>?_) (λe2=>?_)
    ·have hz:pl[i]'(by omega)=0:=by
      have:=hcf i (by omega) e2;rw[IU (bB (by omega))]at this;exact si this
     refine go ?_;refine jk (o:=0+i*1) (cs:=(mh pl dn g i).map (.int .i64)) (cs':=(mh pl dn g (i+1)).map (.int .i64)) (v:=.int .i64 0) (by rw[bG,fV,<- TF (by omega) hz,lS]) (by rw[bI];omega) ?_;refine go ?_;exact aL (i+1) (by omega) (by omega)
    ·rw[<- TG (pl:=pl) (dn:=dn) (g:=g) (i:=i) (by omega) e2];refine go ?_;exact aL (i+1) (by omega) (by omega)
   have hin:i=pl.length:=by omega
   subst hin;rw[TD];refine go ?_;exact aL (g+1,va) (by show 2^pl.length - (g+1)<2^pl.length - g;rw[hpl];omega) ⟨by show 1<=g+1;omega,by show g+1<=2^pl.length;rw[hpl];omega⟩
theorem agl{vl vo:Value}{l:List ak}{p:Int}{s:aK}(hr:∀x∈l,iq s x)(Vt:l.length<=32)(hn:(aO l p).length<=4):
 aX Tryz.prog (.func 47) [vl,vo] [] [] [ae aZ vl l,ae ah vo (ints (aO l p))] (λv:Value=>v) (λ_=>[]) (λv=>[ae (bN ah) v (kw (wl l p))]) (λ_=>True):=by
 have oK:=qy l p;have hil:=om (aO l p);have htop:∀i,i<(wl l p).length->hi (wl l p) i<=qw:=λi hi=>(rU hr hi).2.2;have hlen:=SG htop (by omega);refine aT _ (bz 47) λB w0=>?_;refine eY (E:=aZ) (v:=vl) (xs:=l) (by simp) λal cl el=>?_;refine eY (E:=ah) (v:=vo) (xs:=ints (aO l p)) (by simp) λao co eo=>?_;subst el eo;refine go ?_;intro b2 b3 b4;refine go ?_;refine AL (aO l p).length ⟨by omega,by omega,by omega⟩ (hx:=by show Value.int .i64 _=_;rw[hil]) (hy:=by show Value.int .i64 _=_;rw[hil]) (λbp=>?_);rw[Nn];refine go ?_;intro b5;refine go ?_;intro b6;refine go ?_;refine bP (fQ (b:=b2)) (h:=?_);refine bP (fQ (b:=b3)) (h:=?_);refine bP (fQ (b:=b5)) (h:=?_);refine bP (fQ (b:=b6)) (h:=?_);refine tq (bN ah) ?_;have hz:List.replicate (aO l p).length (0:Int)=pO (wl l p):=by unfold pO;rw[oK]
 rw[hz];refine aB (agf (vl:=.slice al l.length cl) (vo:=.slice ao (ints (aO l p)).length co) (l:=l) (p:=p) (s:=s) (bo:=b3) (ba:=b4) (bq:=b5) (bp:=bp) (bl:=b2) (bn:=b6) hr Vt rfl (by omega) (wl l p).length (pl:=pO (wl l p)) (fr:=0) (dn:=0) (acc:=[]) (va:=.slice none 0 0) (Du htop 0) (by omega) (by omega) (by omega) (by rw[rZ,bG];exact dB hlen (by decide))) (next:=λv _=>?_);refine bP (A:=ap (bN ah) v ([]++nG (wl l p) (wl l p).length (pO (wl l p)) 0 0)) (fs:=[ae (bN ah) v (kw (wl l p))]) rD (h:=?_);refine eY (E:=bN ah) (v:=v) (xs:=kw (wl l p)) (by simp) λav cv ev=>?_;subst ev;refine go ?_;exact aj (.slice av (kw (wl l p)).length cv) (hv:=rfl) (hp:=trivial)
