/-
  ref53: less; ref13.In: towards Orders.
-/
import Derived.Test.YtbdaaopebgcnaaaGreatDoorLibJM
import Derived.Test.YtbdaaopebgcnaaaGreatDoorPlainBM
set_option linter.all false
set_option maxRecDepth 10000
set_option maxHeartbeats 4000000
namespace Go.Proofs.YtbdaaopebgcnaaaGreatDoor
open Go.Ideal Rk
end Go.Proofs.YtbdaaopebgcnaaaGreatDoor
namespace Go.Proofs.YtbdaaopebgcnaaaGreatDoor
open Go.Ideal Rk
section
variable {P:Program} {B:List Nat} {w0:Wd} {kl eu:List OA} {F:List aB} {K:KO} {ds:List Tmp} {rest:List aP} {n:Nat} {l:List (Nat×Value)} {D:List Deferred} {pm:Option FrameMode} {ro:Option Nat} {d:Nat} {g:Option (Tmp×Bool)}
theorem adB{e:TypeId}{bytes b bx m:Nat}{s x:Operand}{cs:List Value}(hne:0<cs.length)(hm:cs.length*bytes<=1073741824/\cs.length<=1073741824)(hmc:m=cs.length)
 (next:∀b',R (λh=>ax P ds rest (act n ((d,.slice (some ⟨b',0,some 1⟩) m m)::l) D pm ro) h K) B w0 (pt b' (.cells cs)::pt bx (.cells cs)::eu) F)
 (hk:aL [pt b (.cells []),pt bx (.cells cs)] kl eu) (hs:ev l s=.slice (some ⟨b,0,some 0⟩) 0 0:=by rfl) (hx:ev l x=.slice (some ⟨bx,0,some 0⟩) m m:=by rfl) (hn:Nat.blt d n=true:=by rfl) (hg:aZ l g=true:=by rfl):
 R (λh=>ax P ds (⟨⟨some d,g,.append e 1 bytes s x⟩,[]⟩::rest) (act n l D pm ro) h K) B w0 kl F:=λw st=>by
 subst hmc;have st1:St B w0 (pt b (.cells [])::pt bx (.cells cs)::eu) F w:=st.jb hk;have hat:At w.h b (.cells []):=st1.at_ .here;have adC:At w.h bx (.cells cs):=st1.at_ (.there .here);obtain⟨k,hk'⟩:∃k,cs.length=k+1:=⟨cs.length - 1,by omega⟩
 have hread:w.h.dL bx 0 (cs.length*1)=some cs:=by
  rw[adC.c.dL,jE,jF,jB,qi,if_pos (aC _),iB]
 refine Bi (b:=b) (o:=0) (m:=0) (k:=k) (f:=some 0) (old:=[]) (xs:=cs) hn hg hs (by rw[hx,hk'];rfl) ?_ ?_ (.inl rfl) ?_ λh' mv=>?_
 ·rw[hx,<- hk'];exact hread
 ·rw[hat.c.dL];rfl
 ·rw[dB,<- hk'];omega
 obtain⟨w',rfl,dG,nO⟩:=st1.move mv;rw[dw]at dG;have:=next w.h.next w' dG
 rw[hk']at this;rw[dB];exact this
end
theorem RO{bp m:Nat}{xs:List Int}(hm:m=xs.length)(hl:xs.length<=1000000):aT Tryz.prog (.func 50) [.slice (some ⟨bp,0,some 0⟩) m m] [] [pt bp (.cells (xs.map (.int .i64)))] [] (λv:Value=>v) (λ_=>[pt bp (.cells (xs.map (.int .i64)))]) (λv=>[ae az v xs]) (λ_=>True):=by
 subst hm;refine aV Kw Rp λB w0=>?_;refine go ?_;refine(bV rfl rfl (EL (e:=3) (by kernel_rfl) rfl)).h ?_;refine go ?_;intro b5;refine go ?_;by_cases h0:xs=[]
 ·subst h0;refine OV ?_ (b:=b5);refine go ?_;refine cu (A:=pt b5 (.cells [])) (fs:=[ae az (.slice (some ⟨b5,0,some 0⟩) 0 0) ([]:List Int)]) (rW (b:=b5) (f:=0) (c:=0) (xs:=[])) (h:=?_);exact aj (.slice (some ⟨b5,0,some 0⟩) 0 0) (hv:=rfl) (hp:=trivial)
 have h0:0<xs.length:=rF.2 h0;refine adB (b:=b5) (bx:=bp) (cs:=xs.map (.int .i64)) (by rw[bI];exact h0) (by rw[bI];omega) (by rw[bI]) (λb'=>?_) (hk:=.cons .here (.cons .here .nil));refine go ?_;refine cu (A:=pt b' (.cells (xs.map (.int .i64)))) (fs:=[ae az (.slice (some ⟨b',0,some 1⟩) xs.length xs.length) xs]) (rW (b:=b') (f:=1) (c:=xs.length) (xs:=xs)) (h:=?_);exact aj (.slice (some ⟨b',0,some 1⟩) xs.length xs.length) (hv:=rfl) (hp:=trivial)
abbrev nxF(vl vo:Value)(l:List aA)(own:List Nat)(bo ba bq bp bl bn:Nat):List aB:=
 [bU bo 0 [vo],bU bq 0 [.slice (some ⟨bp,0,some 0⟩) own.length own.length],bU bl 0 [vl],bU bn 0 [.func (.func 67) ⟨[]⟩ ⟨[ptr' bo,ptr' ba,ptr' bq,ptr' bl,ptr' bn]⟩],ae az vo (ints own),ae bR vl l]
theorem RP{l:List aA}{p:Int}{k i:Nat}(h:(cz l p)[k]? =some i){x:aA}(hx:l[i]? =some x):lo (wl l p) k=x.lo/\hi (wl l p) k=x.hi:=by
 have:=Fq h;rw[show l.getD i dR=x by rw[oh,hx];rfl]at this;unfold lo hi;rw[oh,this];exact⟨rfl,rfl⟩
theorem xK{w:Wd}{b o m:Nat}{cs:List Value}(h:(bU b o cs).p w):(bU b (o+m) (cs.drop m)).p w:=by
 obtain⟨cells,h1,h2⟩:=h;refine⟨cells,h1,λj u hj=>?_⟩;rw[iV]at hj;rw[lQ];exact h2 _ u hj
theorem FX{pl:List Int}{i:Nat}{x:Int}(h:pl[i]? =some x):eY pl i=decide (x=0):=by
 show decide (pl.getD i 0=0)=_;rw[oh,h];rfl
theorem adE{vl vo:Value}{l:List aA}{p:Int}{s:aJ}{n:Nat}{bo ba bq bp bl bn:Nat}(hr:∀x∈l,iq s x)(RQ:l.length<=32)(hn:n=(cz l p).length)(hn8:n<=8):∀(f:Nat) {pl:List Int} {fr:Int} {dn:Nat} {acc:List (List Int)} {va:Value},pW (wl l p) pl fr dn->n<=dn+f->0<=fr->fr<=1048577->
 acc.length+(lZ (wl l p) f pl fr dn).length<=4096->
 aT Tryz.prog (.func 67) [.int .i64 (dn:Int),.int .i64 fr] [ptr' bo,ptr' ba,ptr' bq,ptr' bl,ptr' bn] [pt ba (.cells [va]),ap (bC az) va acc,pt bp (.cells (pl.map (.int .i64)))] (nxF vl vo l (cz l p) bo ba bq bp bl bn)
  (λ_:Value=>.tuple ⟨[]⟩) (λRU=>[pt ba (.cells [RU]),ap (bC az) RU (acc++lZ (wl l p) f pl fr dn),pt bp (.cells (pl.map (.int .i64)))]) (λ_=>[]) (λ_=>True):=by
 have nk:(wl l p).length=n:=by rw[uh,hn]
 have hil:=xy (cz l p);intro f;induction f with
 |zero=>
  intro pl fr dn acc va st hf h0 h1 hacc;have hdn:dn=n:=by have:=st.tot;omega
  rw[Qs (by omega)]at hacc⊢;simp only[qj]at hacc;have hpl:pl.length=n:=by rw[st.len,nk]
  refine aV _ (bB 67) λB w0=>?_;refine go ?_;refine aM rfl (λh2=>?_) (λh2=>?_)
  ·refine go ?_;refine aM rfl (λh3=>?_) (λh3=>?_)
   ·exfalso;omega
   refine go ?_;refine aG (RO (bp:=bp) (m:=(cz l p).length) (xs:=pl) (by omega) (by omega)) (next:=λvc _=>?_);refine eU (E:=az) (v:=vc) (xs:=pl) (by simp) λav cv ev=>?_;subst ev;refine go ?_;intro b31;refine go ?_;refine qN (xs:=acc) (bC az) pl (.slice av pl.length cv) (by omega) (next:=λad=>?_);refine go ?_;exact aj (.slice ad (acc.length+1) (acc.length+1)) (hv:=rfl) (hp:=trivial)
  ·exfalso;omega
 |succ f ih=>
  intro pl fr dn acc va st hf h0 h1 hacc;have hpl:pl.length=n:=by rw[st.len,nk]
  refine aV _ (bB 67) λB w0=>?_;refine go ?_;refine aM rfl (λh2=>?_) (λh2=>?_)
  ·have hdn:dn=n:=by omega
   rw[Qs (by omega)]at hacc⊢;simp only[qj]at hacc;refine go ?_;refine aM rfl (λh3=>?_) (λh3=>?_)
   ·exfalso;omega
   refine go ?_;refine aG (RO (bp:=bp) (m:=(cz l p).length) (xs:=pl) (by omega) (by omega)) (next:=λvc _=>?_);refine eU (E:=az) (v:=vc) (xs:=pl) (by simp) λav cv ev=>?_;subst ev;refine go ?_;intro b31;refine go ?_;refine qN (xs:=acc) (bC az) pl (.slice av pl.length cv) (by omega) (next:=λad=>?_);refine go ?_;exact aj (.slice ad (acc.length+1) (acc.length+1)) (hv:=rfl) (hp:=trivial)
  have hdn:dn≠(wl l p).length:=by omega
  have hdl:dn<n:=by have:=st.tot;omega
  rw[abg hdn]at hacc⊢;have hp2:1<2^n:=Nat.one_lt_two_pow (by omega);have wh:2^n<=256:=Nat.pow_le_pow_right (n:=2) (by decide) hn8;rw[nk]at hacc⊢;refine go ?_;refine dQ (λy:Nat×Value=>2^n - y.1) (λy=>[(9,.int .i64 (y.1:Int))]) (λy=>[pt ba (.cells [y.2]),ap (bC az) y.2 (acc++q9 (wl l p) f pl fr dn y.1),pt bp (.cells (pl.map (.int .i64)))]) (λ_=>[]) (λy=>1<=y.1/\y.1<=2^n) (1,va) ⟨aC _,by omega⟩ (hk:=by
   rw[abf,fJ];repeat (first|exact aL.nil|(apply aL.cons;(focus (repeat (first|exact ah.here|apply ah.there)))))) (body:=?_)
  rintro⟨g,va⟩ ⟨hg1,hg2⟩;dsimp only at hg1 hg2⊢;refine go ?_;refine(bV rfl rfl (Oj (a:=1) (b:=(ints (cz l p)).length) rfl rfl (by omega) (by rw[LA,hil,<- hn];omega))).h ?_;rw[LA,hil,<- hn];refine go ?_;refine aM rfl (λh3=>?_) (λh3=>?_)
  rotate_left
  ·have hge:g=2^n:=by omega
   subst hge;refine go ?_;exact aj va (hv:=rfl) (hp:=trivial)
  have hgt:g<2^n:=by omega
  have hsucc:=Qr (W:=wl l p) (f:=f) (pl:=pl) (fr:=fr) (dn:=dn) hg1;have hmono:=abh (W:=wl l p) (f:=f) (pl:=pl) (fr:=fr) (dn:=dn) (g:=g+1) (g':=2^n) (by omega) (by omega);refine go ?_;refine dQ (λi=>n - i) (λi:Nat=>[(43,.int .i64 (i:Int)),(10,.int .i64 (jS (wl l p) fr g i)),(11,.int .i64 (j6 (wl l p) g i)),(12,.int .i64 ((cnt i λk=>g.testBit k:Nat):Int))]) (λ_=>[]) (λ_=>[]) (λi=>i<=n/\clash pl g i=false) 0 ⟨dY _,rfl⟩ (body:=?_);rintro i ⟨hi,hcl⟩;refine go ?_;refine aM rfl (λh4=>?_) (λh4=>?_)
  ·have agA:=Jy i λk=>g.testBit k;have hcs:=vL i λk=>g.testBit k;refine go ?_;intro _ _ a' ha';obtain⟨a,ha,rfl⟩:=Fg ha';have hal:=Fh ha;have hx0:l[a]? =some l[a]:=bH hal;refine go ?_;refine(bV rfl rfl (Bq (a:=g) (b:=i) rfl rfl (by omega))).h ?_;refine(bV rfl rfl (Br (b:=1) rfl rfl (zU (Gn _ _) (by omega)) (by omega))).h ?_;refine go ?_;rw[abr];refine jO rfl (λe1=>?_) (λe1=>?_)
   ·have e1:g.testBit i=false:=by simpa using e1
    have q1:jS (wl l p) fr g (i+1)=jS (wl l p) fr g i:=by rw[QA,e1];rfl
    have q2:j6 (wl l p) g (i+1)=j6 (wl l p) g i:=by rw[JW,e1];rfl
    have q3:(cnt (i+1) λk=>g.testBit k)=cnt i λk=>g.testBit k:=by rw[hcs,e1];rfl
    rw[<- q1,<- q2,<- q3];refine go ?_;exact aY (i+1) (by omega) ⟨by omega,by rw[JV,hcl,e1];rfl⟩
   have e1:g.testBit i=true:=by simpa using e1
   rw[e1,if_pos rfl]at hcs;have hx1:pl[i]? =some (pl[i]'(by omega)):=bH _;have hfr:=FX hx1;generalize pl[i]'(by omega)=z at hx1 hfr;refine go ?_;refine mV (o:=0+i*1) (cs:=pl.map (.int .i64)) (.int .i64 z) (by rw[dB,jB,cK,hx1];rfl) ?_;refine go ?_;refine aM rfl (λe2=>?_) (λe2=>?_)
   ·have hck:clash pl g n=true:=abj (i:=i+1) (by omega) (by rw[JV,hcl,e1,hfr,gq e2];rfl);have hG:vO (wl l p) f pl fr dn g=[]:=by unfold vO lY;rw[nk,hck];rfl
    rw[hG,fJ]at hsucc;rw[<- hsucc];refine go ?_;exact aY (g+1,va) (by show 2^n - (g+1)<2^n - g;omega) ⟨by show 1<=g+1;omega,by show g+1<=2^n;omega⟩
   have e2:z=0:=rJ.1 e2;subst e2;obtain⟨o1,o2⟩:=RP ha hx0;refine go ?_;refine eX bR (k:=a) (next:=λbx ox x _ hx=>?_);cases hx0.symm.trans hx;refine go ?_;refine bX (bU bx (ox+3) [.int .i64 l[a].lo,.int .i64 l[a].hi,.bool l[a].r]) (λw hw=>xK (m:=3) (hw _ (aS ..))) ?_;refine(pM (b:=bx) (o:=ox+3) (j:=0) (v:=.int .i64 l[a].lo) rfl rfl rfl (aS ..) rfl).h ?_;refine(bV rfl rfl (vC rfl rfl)).h ?_;refine go ?_;refine eX bR (k:=a) (next:=λzz zA x2 _ hx2=>?_);cases hx.symm.trans hx2;refine go ?_;refine bX (bU zz (zA+3) [.int .i64 l[a].lo,.int .i64 l[a].hi,.bool l[a].r]) (λw hw=>xK (m:=3) (hw _ (aS ..))) ?_;refine(pM (b:=zz) (o:=zA+3) (j:=1) (v:=.int .i64 l[a].hi) rfl rfl rfl (aS ..) rfl).h ?_;refine(bV rfl rfl (w9 rfl rfl)).h ?_;refine go ?_;have q1:jS (wl l p) fr g (i+1)=max (jS (wl l p) fr g i) l[a].lo:=by rw[QA,e1,o1];rfl
   have q2:j6 (wl l p) g (i+1)=min (j6 (wl l p) g i) l[a].hi:=by rw[JW,e1,o2];rfl
   rw[<- q1,<- q2,show((cnt i λk=>g.testBit k:Nat):Int)+1=((cnt (i+1) λk=>g.testBit k:Nat):Int)by rw[hcs];rfl];refine go ?_;exact aY (i+1) (by omega) ⟨by omega,by rw[JV,hcl,e1,hfr];rfl⟩
  have hin:i=n:=by omega
  subst hin;have hcf:=zn.1 hcl;have adH:0<=jS (wl l p) fr g i:=Int.le_trans h0 (E5 i);have htop:j6 (wl l p) g i<=1048576:=abt;have adI:(cnt i λk=>g.testBit k)=many (wl l p) g:=by unfold many;rw[nk]
  have hmp:=zq (W:=wl l p) (g:=g) (by omega) (by rw[nk];exact hgt);have agB:many (wl l p) g<=i:=by have:=Jy (wl l p).length λk=>g.testBit k;unfold many;omega
  have RV:jS (wl l p) fr g i=jo (wl l p) fr g:=by show _=jS _ _ _ (wl l p).length;rw[nk]
  have RX:j6 (wl l p) g i=JA (wl l p) g:=by show _=j6 _ _ (wl l p).length;rw[nk]
  rw[adI,RV,RX];rw[RV]at adH;rw[RX]at htop;refine go ?_;refine aM rfl (λe3=>?_) (λe3=>?_)
  ·have hG:vO (wl l p) f pl fr dn g=[]:=by unfold vO lY;rw[gq (by omega),Bool.and_false];rfl
   rw[hG,fJ]at hsucc;rw[<- hsucc];refine go ?_;exact aY (g+1,va) (by show 2^i - (g+1)<2^i - g;omega) ⟨by show 1<=g+1;omega,by show g+1<=2^i;omega⟩
  have hok:lY (wl l p) pl fr g=true:=by unfold lY;rw[nk,hcl,fK (by omega)];rfl
  have zC:vO (wl l p) f pl fr dn g=if late (wl l p) pl fr g then[]else lZ (wl l p) f (gF pl dn g) (jo (wl l p) fr g+1) (dn+many (wl l p) g):=by unfold vO;rw[hok];rfl
  have hsl:=qW (pl:=pl) (dn:=dn) (g:=g);refine go ?_;refine dQ (λy:Nat×Bool=>i - y.1) (λy=>[(86,.int .i64 (y.1:Int)),(15,.bool y.2)]) (λy=>[pt bp (.cells ((jV pl dn g y.1).map (.int .i64)))]) (λ_=>[]) (λy=>y.1<=i/\y.2=BM (wl l p) pl (jo (wl l p) fr g) g y.1) (0,false) ⟨dY _,rfl⟩ (hk:=by
   rw[abl];repeat (first|exact aL.nil|(apply aL.cons;(focus (repeat (first|exact ah.here|apply ah.there)))))) (body:=?_)
  rintro⟨k,b⟩ ⟨hk,hb⟩;dsimp only at hk hb⊢;have agC:=abn (pl:=pl) (dn:=dn) (g:=g) (i:=k);refine go ?_;refine aM rfl (λe4=>?_) (λe4=>?_)
  ·have hls:=abk (W:=wl l p) (pl:=pl) (v:=jo (wl l p) fr g) (g:=g) (i:=k);rw[<- hb]at hls;refine go ?_;intro _ _ a' ha';obtain⟨a,ha,rfl⟩:=Fg ha';have hal:=Fh ha;have hx0:l[a]? =some l[a]:=bH hal;obtain⟨o1,o2⟩:=RP ha hx0;have hx1:pl[k]? =some (pl[k]'(by omega)):=bH _;have hfr:=FX hx1;have hsg:=abo (pl:=pl) (dn:=dn) (g:=g) (i:=k) (by omega);have hsi:=abp (pl:=pl) (dn:=dn) (g:=g) (i:=k) (by omega);have hso:=abq (pl:=pl) (dn:=dn) (g:=g) (i:=k) (by omega);generalize pl[k]'(by omega)=z at hx1 hfr hsg;rw[hfr,o2]at hls;refine go ?_;refine(bV rfl rfl (Bq (a:=g) (b:=k) rfl rfl (by omega))).h ?_;refine(bV rfl rfl (Br (b:=1) rfl rfl (zU (Gn _ _) (by omega)) (by omega))).h ?_;refine go ?_;rw[Fx];cases hbit:g.testBit k with
   |true=>
    rw[hbit]at hls;have hsi:=hsi hbit;cases b with
    |true=>
     refine go ?_;refine qO (o:=0+k*1) (cs:=(jV pl dn g k).map (.int .i64)) (cs':=(jV pl dn g (k+1)).map (.int .i64)) (v:=.int .i64 ((dn:Int)+1)) (by rw[dB,jB,<- hsi,wD]) (by rw[bI];omega) ?_;refine go ?_;exact aY (k+1,true) (by show i - (k+1)<i - k;omega) ⟨by show k+1<=i;omega,by show true=_;rw[hls];simp⟩
    |false=>
     refine go ?_;refine qO (o:=0+k*1) (cs:=(jV pl dn g k).map (.int .i64)) (cs':=(jV pl dn g (k+1)).map (.int .i64)) (v:=.int .i64 ((dn:Int)+1)) (by rw[dB,jB,<- hsi,wD]) (by rw[bI];omega) ?_;refine go ?_;exact aY (k+1,false) (by show i - (k+1)<i - k;omega) ⟨by show k+1<=i;omega,by show false=_;rw[hls];simp⟩
   |false=>
    rw[hbit]at hls;have hso:=hso hbit;cases b with
    |true=>
     refine go ?_;rw[<- hso];exact aY (k+1,true) (by show i - (k+1)<i - k;omega) ⟨by show k+1<=i;omega,by show true=_;rw[hls];simp⟩
    |false=>
     refine go ?_;refine mV (o:=0+k*1) (cs:=(jV pl dn g k).map (.int .i64)) (.int .i64 z) (by rw[dB,jB,cK,hsg];rfl) ?_;refine go ?_;refine gG (λe5=>?_) (λe5=>?_)
     ·rw[gq e5]at hls;refine go ?_;rw[<- hso];exact aY (k+1,false) (by show i - (k+1)<i - k;omega) ⟨by show k+1<=i;omega,by show false=_;rw[hls];simp⟩
     ·rw[fK e5]at hls;refine go ?_;refine eX bR (k:=a) (next:=λbx ox x _ hx=>?_);cases hx0.symm.trans hx;refine go ?_;refine bX (bU bx (ox+3) [.int .i64 l[a].lo,.int .i64 l[a].hi,.bool l[a].r]) (λw hw=>xK (m:=3) (hw _ (aS ..))) ?_;refine(pM (b:=bx) (o:=ox+3) (j:=1) (v:=.int .i64 l[a].hi) rfl rfl rfl (aS ..) rfl).h ?_;refine go ?_;rw[<- hso];exact aY (k+1,decide (l[a].hi<=jo (wl l p) fr g)) (by show i - (k+1)<i - k;omega) ⟨by show k+1<=i;omega,by show decide (l[a].hi<=jo (wl l p) fr g)=_;rw[hls];simp⟩
  have hki:k=i:=by omega
  subst hki;rw[<- hpl,abm];have hlt:b=late (wl l p) pl fr g:=by rw[hb];unfold late BM;rw[nk]
  rw[<- hlt]at zC;cases b with
  |true=>
   rw[if_pos rfl]at zC;rw[zC,fJ]at hsucc;rw[<- hsucc];refine go ?_;refine dQ (λi=>pl.length - i) (λi:Nat=>[(136,.int .i64 (i:Int))]) (λi=>[pt bp (.cells ((kW pl dn g i).map (.int .i64)))]) (λ_=>[]) (λi=>i<=pl.length) 0 (dY _) (hk:=by
    rw[Qv];repeat (first|exact aL.nil|(apply aL.cons;(focus (repeat (first|exact ah.here|apply ah.there)))))) (body:=?_)
   intro i hi;have hrl:=Qx (pl:=pl) (dn:=dn) (g:=g) (i:=i);refine go ?_;refine aM rfl (λe1=>?_) (λe1=>?_)
   ·refine go ?_;refine(bV rfl rfl (Bq (a:=g) (b:=i) rfl rfl (by omega))).h ?_;refine(bV rfl rfl (Br (b:=1) rfl rfl (zU (Gn _ _) (by omega)) (by omega))).h ?_;refine go ?_;rw[Fx];refine jO rfl (λe2=>?_) (λe2=>?_)
    ·have hz:pl[i]'(by omega)=0:=by
      have:=hcf i (by omega) e2;rw[FX (bH (by omega))]at this;exact sN this
     refine go ?_;refine qO (o:=0+i*1) (cs:=(kW pl dn g i).map (.int .i64)) (cs':=(kW pl dn g (i+1)).map (.int .i64)) (v:=.int .i64 0) (by rw[dB,jB,<- Qy (by omega) hz,wD]) (by rw[bI];omega) ?_;refine go ?_;exact aY (i+1) (by omega) (by omega)
    ·rw[<- Qz (pl:=pl) (dn:=dn) (g:=g) (i:=i) (by omega) e2];refine go ?_;exact aY (i+1) (by omega) (by omega)
   have hin:i=pl.length:=by omega
   subst hin;rw[Qw];refine go ?_;exact aY (g+1,va) (by show 2^pl.length - (g+1)<2^pl.length - g;rw[hpl];omega) ⟨by show 1<=g+1;omega,by show g+1<=2^pl.length;rw[hpl];omega⟩
  |false=>
   rw[if_neg (by simp)]at zC;rw[hsucc,dK,zC]at hmono;refine go ?_;rw[show(dn:Int)+(many (wl l p) g:Int)=((dn+many (wl l p) g:Nat):Int)by omega];refine aG (ih (pl:=gF pl dn g) (fr:=jo (wl l p) fr g+1) (dn:=dn+many (wl l p) g) (acc:=acc++q9 (wl l p) f pl fr dn g) (va:=va) (st.next (by rw[nk];exact hcl)) (by omega) (by omega) (by omega) (by rw[dK];omega)) (next:=λva _=>?_);rw[gY,<- zC,<- hsucc];refine go ?_;refine dQ (λi=>pl.length - i) (λi:Nat=>[(136,.int .i64 (i:Int))]) (λi=>[pt bp (.cells ((kW pl dn g i).map (.int .i64)))]) (λ_=>[]) (λi=>i<=pl.length) 0 (dY _) (hk:=by
    rw[Qv];repeat (first|exact aL.nil|(apply aL.cons;(focus (repeat (first|exact ah.here|apply ah.there)))))) (body:=?_)
   intro i hi;have hrl:=Qx (pl:=pl) (dn:=dn) (g:=g) (i:=i);refine go ?_;refine aM rfl (λe1=>?_) (λe1=>?_)
   ·refine go ?_;refine(bV rfl rfl (Bq (a:=g) (b:=i) rfl rfl (by omega))).h ?_;refine(bV rfl rfl (Br (b:=1) rfl rfl (zU (Gn _ _) (by omega)) (by omega))).h ?_;refine go ?_;rw[Fx];refine jO rfl (λe2=>?_) (λe2=>?_)
    ·have hz:pl[i]'(by omega)=0:=by
      have:=hcf i (by omega) e2;rw[FX (bH (by omega))]at this;exact sN this
     refine go ?_;refine qO (o:=0+i*1) (cs:=(kW pl dn g i).map (.int .i64)) (cs':=(kW pl dn g (i+1)).map (.int .i64)) (v:=.int .i64 0) (by rw[dB,jB,<- Qy (by omega) hz,wD]) (by rw[bI];omega) ?_;refine go ?_;exact aY (i+1) (by omega) (by omega)
    ·rw[<- Qz (pl:=pl) (dn:=dn) (g:=g) (i:=i) (by omega) e2];refine go ?_;exact aY (i+1) (by omega) (by omega)
   have hin:i=pl.length:=by omega
   subst hin;rw[Qw];refine go ?_;exact aY (g+1,va) (by show 2^pl.length - (g+1)<2^pl.length - g;rw[hpl];omega) ⟨by show 1<=g+1;omega,by show g+1<=2^pl.length;rw[hpl];omega⟩
theorem adJ{vl vo:Value}{l:List aA}{p:Int}{s:aJ}(hr:∀x∈l,iq s x)(RQ:l.length<=32)(hn:(cz l p).length<=4):
 aT Tryz.prog (.func 47) [vl,vo] [] [] [ae bR vl l,ae az vo (ints (cz l p))] (λv:Value=>v) (λ_=>[]) (λv=>[ae (bC az) v (jJ (wl l p))]) (λ_=>True):=by
 have nk:=uh l p;have hil:=xy (cz l p);have htop:∀i,i<(wl l p).length->hi (wl l p) i<=oG:=λi hi=>(vN hr hi).2.2;have hlen:=PS htop (by omega);refine aV _ (bB 47) λB w0=>?_;refine eU (E:=bR) (v:=vl) (xs:=l) (by simp) λal cl el=>?_;refine eU (E:=az) (v:=vo) (xs:=ints (cz l p)) (by simp) λao co eo=>?_;subst el eo;refine go ?_;intro b2 b3 b4;refine go ?_;refine Ot (cz l p).length ⟨by omega,by omega,by omega⟩ (hx:=by show Value.int .i64 _=_;rw[hil]) (hy:=by show Value.int .i64 _=_;rw[hil]) (λbp=>?_);rw[ac4];refine go ?_;intro b5;refine go ?_;intro b6;refine go ?_;refine cu (fT (b:=b2)) (h:=?_);refine cu (fT (b:=b3)) (h:=?_);refine cu (fT (b:=b5)) (h:=?_);refine cu (fT (b:=b6)) (h:=?_);refine wW (bC az) ?_;have hz:List.replicate (cz l p).length (0:Int)=nU (wl l p):=by unfold nU;rw[nk]
 rw[hz];refine aG (adE (vl:=.slice al l.length cl) (vo:=.slice ao (ints (cz l p)).length co) (l:=l) (p:=p) (s:=s) (bo:=b3) (ba:=b4) (bq:=b5) (bp:=bp) (bl:=b2) (bn:=b6) hr RQ rfl (by omega) (wl l p).length (pl:=nU (wl l p)) (fr:=0) (dn:=0) (acc:=[]) (va:=.slice none 0 0) (BH htop 0) (by omega) (by omega) (by omega) (by rw[qf,dB];exact cO hlen (by decide))) (next:=λv _=>?_);refine cu (A:=ap (bC az) v ([]++lZ (wl l p) (wl l p).length (nU (wl l p)) 0 0)) (fs:=[ae (bC az) v (jJ (wl l p))]) wV (h:=?_);refine eU (E:=bC az) (v:=v) (xs:=jJ (wl l p)) (by simp) λav cv ev=>?_;subst ev;refine go ?_;exact aj (.slice av (jJ (wl l p)).length cv) (hv:=rfl) (hp:=trivial)
