/-
  ref55.Read.
-/
import Derived.Test.YtbdaaopebgcnaaaGreatDoorLawRM
import Derived.Test.YtbdaaopebgcnaaaGreatDoorPlainEM
set_option linter.all false
set_option maxRecDepth 10000
set_option maxHeartbeats 4000000
namespace Go.Proofs.YtbdaaopebgcnaaaGreatDoor
open Go.Ideal Rk En
def mD(l:List ak)(o:List Bool)(dq:List Nat)(n i k:Nat):List ak:=(kV l o dq n i).set i (if jo (dq.take k) n (l.getD i dR).p then{l.getD i dR with r:=o.getD i false}else l.getD i dR)
section
variable {l:List ak} {o:List Bool} {dq:List Nat} {n i k:Nat} {x:ak} {b:Bool}
theorem ahU(h:o.length=l.length)(hi:i<l.length):mD l o dq n i 0=kV l o dq n i:=by
 have hx:l[i]? =some l[i]:=bB hi;have hg:l.getD i dR=l[i]:=by rw[iA,hx];rfl
 unfold mD;rw[hg,if_neg (by simp[jo]),NR (VY h hx)]
theorem ahV(h:o.length=l.length)(hi:i<l.length):mD l o dq n i dq.length=kV l o dq n (i+1):=by
 have hx:l[i]? =some l[i]:=bB hi;have hg:l.getD i dR=l[i]:=by rw[iA,hx];rfl
 have hb:o[i]? =some (o[i]'(by omega)):=bB _;have hgo:o.getD i false=o[i]'(by omega):=by rw[iA,hb];rfl
 unfold mD;rw[gV,hg,hgo,VZ h hx hb]
theorem ahW(h:o.length=l.length)(hi:i<l.length):(mD l o dq n i k).length=l.length:=by
 unfold mD;rw[EO,NQ h (by omega)]
theorem ahX(h:o.length=l.length)(hx:l[i]? =some x):∃y,(mD l o dq n i k)[i]? =some y/\y.p=x.p/\∀r,({y with r:=r}:ak)={x with r:=r}:=by
 have hi:=(dU.1 hx).1;have hg:l.getD i dR=x:=by rw[iA,hx];rfl
 refine⟨_,Jw (by rw[NQ h (by omega)];exact hi),?_,λr=>?_⟩
 ·rw[hg];split<;>rfl
 ·rw[hg];split<;>rfl
theorem Wo(hk:k<dq.length)(p:Int):jo (dq.take (k+1)) n p=(jo (dq.take k) n p||(decide (((dq[k]:Nat):Int)=p)&&n.testBit k)):=by
 have hx:dq[k]? =some dq[k]:=bB hk;rw[eD hx,MQ,cB,wI (by omega)]
theorem Wp(hx:l[i]? =some x)(hk:k<dq.length)(h:(decide (((dq[k]:Nat):Int)=x.p)&&n.testBit k)=false):mD l o dq n i (k+1)=mD l o dq n i k:=by
 have hg:l.getD i dR=x:=by rw[iA,hx];rfl
 unfold mD;rw[hg,Wo hk,h,oP]
theorem ahY(hx:l[i]? =some x)(hb:o[i]? =some b)(hk:k<dq.length)(h:(decide (((dq[k]:Nat):Int)=x.p)&&n.testBit k)=true):(mD l o dq n i k).set i {x with r:=b}=mD l o dq n i (k+1):=by
 have hg:l.getD i dR=x:=by rw[iA,hx];rfl
 have hgo:o.getD i false=b:=by rw[iA,hb];rfl
 unfold mD;rw[hg,hgo,Wo hk,h,Bool.or_true,if_pos rfl,List.set_set]
end
section
variable {P:Program} {B:List Nat} {w0:Wd} {kl:List OA} {F:List aD} {K:KO} {ds:List Tmp} {rest:List aW} {n:Nat} {l:List (Nat×Value)} {D:List Deferred} {pm:Option FrameMode} {ro:Option Nat} {d:Nat} {g:Option (Tmp×Bool)}
theorem Wq{g:Option (Tmp×Bool)}(hg:rz l g=true):(act n l D pm ro).wants g=some false:=by
 cases g with
 |none=>cases hg
 |some p=>
  obtain⟨t,w⟩:=p;rw[Ag];simp only[rz]at hg;split at hg
  ·rename_i b hb;rw[hb];cases w<;>cases b<;>simp_all
  ·rename_i b hb;rw[hb]
  ·cases hg
theorem ahZ{h:IH}{f:Operand}{xs:List Operand}{re re':List eZ}(hn:Nat.blt d n=true)(hoff:∀r∈re,(∀v:Value,rz ((d,v)::l) r.guard=true)\/r∈re')
 (hh:aA P ds (⟨⟨some d,g,.call f xs⟩,re'⟩::rest) (act n l D pm ro) h K):aA P ds (⟨⟨some d,g,.call f xs⟩,re⟩::rest) (act n l D pm ro) h K:=by
 have hno:∀r∈re,(∀v:Value,((act n l D pm ro).put (some d) v).wants r.guard=some false)\/r∈re':=λr hr=>(hoff r hr).imp (λq v=>by rw[lg hn];exact Wq (q v)) id;cases hh with
 |skip hw h1=>exact .skip hw h1
 |iP hw v h' hr hs h1=>
  refine .iP hw v h' hr (λr hr2 hwr=>?_) h1;rcases hno r hr2 with e|hr2
  ·exact absurd (e v) hwr
  ·exact hs r hr2 hwr
 |call hw q hq M hc hs hok gY=>
  refine .call hw q hq M hc (λv pm h' hm r hr2 hwr=>?_) hok gY;rcases hno r hr2 with e|hr2
  ·exact absurd (e v) hwr
  ·exact hs v pm h' hm r hr2 hwr
 |FI hw ho=>cases ho
 |recoverD hw ho=>cases ho
 |panic hw x ho=>cases ho
 |defer hw f args ho=>cases ho
 |next hw x ho=>cases ho
theorem Ws{x:Operand}{r0:eZ}{re:List eZ}(hoff:∀v:Value,rz ((d,v)::l) r0.guard=true)(h:R (λh=>aA P ds (⟨⟨some d,g,.bF x⟩,re⟩::rest) (act n l D pm ro) h K) B w0 kl F)(hn:Nat.blt d n=true:=by rfl):
 R (λh=>aA P ds (⟨⟨some d,g,.bF x⟩,r0::re⟩::rest) (act n l D pm ro) h K) B w0 kl F:=λw s=>by
 have hno:∀v:Value,((act n l D pm ro).put (some d) v).wants r0.guard=some false:=λv=>by rw[lg hn];exact Wq (hoff v)
 have hmem:∀{r:eZ},r∈r0::re->r=r0\/r∈re:=λhr=>bD.1 hr;have hh:=h w s;cases hh with
 |skip hw h1=>exact .skip hw h1
 |iP hw v h' hr hs h1=>
  refine .iP hw v h' hr (λr hr2 hwr=>?_) h1;rcases hmem hr2 with e|hr2
  ·subst e;exact absurd (hno v) hwr
  ·exact hs r hr2 hwr
 |call hw q hq M hc hs hok gY=>cases hq
 |FI hw ho=>cases ho
 |recoverD hw ho=>cases ho
 |panic hw x ho=>cases ho
 |defer hw f args ho=>cases ho
 |next hw x ho=>cases ho
theorem ah0{f:Operand}{xs:List Operand}{r0 r1:eZ}{re:List eZ}(hoff:∀v:Value,rz ((d,v)::l) r0.guard=true)(h:R (λh=>aA P ds (⟨⟨some d,g,.call f xs⟩,r1::re⟩::rest) (act n l D pm ro) h K) B w0 kl F)(hn:Nat.blt d n=true:=by rfl):
 R (λh=>aA P ds (⟨⟨some d,g,.call f xs⟩,r1::r0::re⟩::rest) (act n l D pm ro) h K) B w0 kl F:=λw s=>ahZ hn (λr hr=>by
  rcases bD.1 hr with e|hr
  ·exact .inr (by rw[e];exact aR ..)
  ·rcases bD.1 hr with e|hr
   ·subst e;exact .inl hoff
   ·exact .inr (dw _ hr)) (h w s)
end
theorem ah1{vl vo vd:Value}{l:List ak}{o:List Bool}{dq:List Nat}{n:Nat}(hll:l.length<=32)(hol:o.length=l.length)(hdl:dq.length<=8)(hn:n<=256):
 aX Tryz.prog (.func 17) [vl,vo,vd,.int .i64 (n:Int)] [] [] [ae aZ vl l,ae kK vo o,ae ah vd (ints dq)] (λv:Value=>v) (λ_=>[]) (λv=>[ae aZ v (rd l o dq n)]) (λ_=>True):=by
 have hil:=om dq;refine aT _ (bz 17) λB w0=>?_;refine go ?_;intro b12;refine go ?_;refine I7 (b:=b12) (v:=vl) (l:=l) (by omega) (λbs f hf=>?_) (by simp) .here;refine go ?_;refine bR (λi=>l.length - i) (λi:Nat=>[(10,.int .i64 (i:Int))]) (λi=>[pt bs (.cells (dM (kV l o dq n i)))]) (λ_=>[]) (λi=>i<=l.length) 0 (cu _) (hk:=by
  rw[VW];repeat (first|exact aI.nil|(apply aI.cons;(focus (repeat (first|exact ai.here|apply ai.there)))))) (body:=?_)
 intro i hi;refine go ?_;refine aC rfl (λh1=>?_) (λh1=>?_)
 ·have hx:l[i]? =some (l[i]'(by omega)):=bB _;generalize l[i]'(by omega)=x at hx;have hb:o[i]? =some (o[i]'(by omega)):=bB _;generalize o[i]'(by omega)=bv at hb;refine go ?_;refine bR (λk=>dq.length - k) (λk:Nat=>[(11,.int .i64 (k:Int))]) (λk=>[pt bs (.cells (dM (mD l o dq n i k)))]) (λ_=>[]) (λk=>k<=dq.length) 0 (cu _) (hk:=by
   rw[ahU hol (by omega)];repeat (first|exact aI.nil|(apply aI.cons;(focus (repeat (first|exact ai.here|apply ai.there)))))) (body:=?_)
  intro k hk;obtain⟨y,hy,hyp,Ni⟩:=ahX (dq:=dq) (n:=n) (k:=k) hol hx;have hfl:=Bu (mD l o dq n i k);rw[ahW hol (by omega)]at hfl;refine go ?_;refine aC rfl (λh2=>?_) (λh2=>?_)
  ·have hq:dq[k]? =some (dq[k]'(by omega)):=bB _;refine go ?_;refine gp (o:=0+i*6+1) (cs:=dM (mD l o dq n i k)) (.int .i64 x.p) (by rw[bG,<- hyp];exact pX hy rfl) ?_;refine go ?_;intro _ _ q hq2;obtain⟨q',hq',rfl⟩:=vP hq2;cases hq.symm.trans hq';refine go ?_;refine gG (λe1=>?_) (λe1=>?_)
   ·rw[<- Wp (o:=o) (n:=n) hx (by omega) (by rw[fB (λe=>e1 e.symm)];rfl)];refine go ?_;exact aL (k+1) (by omega) (by omega)
   refine go ?_;refine(bC rfl rfl (AC (a:=n) (b:=k) rfl rfl (by omega))).h ?_;refine(bC rfl rfl (AJ (b:=1) rfl rfl (zy (ER _ _) (by omega)) (by omega))).h ?_;refine go ?_;rw[DK];refine iW rfl (λhbt=>?_) (λhbt=>?_)
   ·have hset:=ahY (n:=n) hx hb (show k<dq.length by omega) (by rw[eP e1.symm,hbt];rfl);refine go ?_;intro _ _ b' hb';cases hb.symm.trans hb';refine go ?_;refine jk (o:=0+i*6+5) (cs:=dM (mD l o dq n i k)) (cs':=dM (mD l o dq n i (k+1))) (v:=.bool bv) (by rw[bG,Ja hy,Ni,hset]) (by omega) ?_;refine go ?_;exact aL (k+1) (by omega) (by omega)
   ·rw[<- Wp (o:=o) (n:=n) hx (by omega) (by rw[hbt,EP])];refine go ?_;exact aL (k+1) (by omega) (by omega)
  have hke:k=dq.length:=by omega
  subst hke;rw[ahV hol (by omega)];refine go ?_;exact aL (i+1) (by omega) (by omega)
 have hie:i=l.length:=by omega
 subst hie;rw[VX hol];refine I8 (l:=rd l o dq n) (b:=bs) (f:=f) hf (hk:=.here) (h:=?_);rw[Ih hol];refine go ?_;exact aj (.slice (some ⟨bs,0,some f⟩) l.length l.length) (hv:=rfl) (hp:=trivial)
end Go.Proofs.YtbdaaopebgcnaaaGreatDoor
namespace Go.Proofs.YtbdaaopebgcnaaaGreatDoor
open Go.Ideal Rk En
theorem WA(n:Nat):zeros [.bool false] n=(List.replicate n false).map .bool:=by
 induction n with
 |zero=>rfl
 |succ n ih=>rw[BK,lK,<- ih];rfl
def dC:zl:=⟨0,0,0,0⟩
theorem aim{s:aK}{v1 v2 v3 v4 vl vo vf:Value}{l:List ak}{o:List Bool}{fs:List aU}{day:Int}(hW:qB s.pg)(hb1:s.lv.length<9223372036854775808)(hb2:s.cl.length<9223372036854775808)(hb3:s.pz.length<9223372036854775808)(hb4:s.pg.length<9223372036854775808)(hx1:cellsOf v1=some [v1])(hx2:cellsOf v2=some [v2])(hx3:cellsOf v3=some [v3])(hx4:cellsOf v4=some [v4])(hbf:fs.length<9223372036854775808):
 gy Tryz.prog 4 [.agg ⟨jD s v1 v2 v3 v4⟩,vl,vo,vf,.int .i64 day] [AY 4,l6 0 mU,ae ah v1 s.lv,ae ah v2 s.cl,ae fP v3 s.pg,ae ah v4 s.pz,ae aZ vl l,ae kK vo o,ae dS vf fs] (.bool true):=by
 refine aT _ (bz 4) λB w0=>?_;refine eY (E:=aZ) (v:=vl) (xs:=l) (by simp) λal cl el=>?_;subst el;refine eY (E:=kK) (v:=vo) (xs:=o) (by simp) λao co eo=>?_;subst eo;refine eY (E:=dS) (v:=vf) (xs:=fs) (by simp) λaf cf ef=>?_;subst ef;refine go ?_;intro b5;refine bP (fQ (b:=b5)) (h:=?_);refine go ?_;refine aB M0 (next:=λ_ _=>?_);refine go ?_;refine aB (NP (s:=s) (v1:=v1) (v2:=v2) (v3:=v3) (v4:=v4) (l:=l) (fs:=fs) (o:=o) (day:=day) hW hb1 hb2 hb3 hb4 hx1 hx2 hx3 hx4) (next:=λb hb=>?_);refine go ?_;refine iW rfl (λh1=>?_) (λh1=>?_)
 ·refine go ?_;exact aj () (hv:=rfl) (hp:=trivial)
 obtain⟨h4,hol,hr0⟩:=hb (by simpa using h1);have hR:=uM hr0;have hfl:=hR.f16;have hck:=l7 hR.ck;have hc1:=hck.sh.c1;have hp1:=hck.sh.p1;have oJ:=hck.sh.p8;have hll:=hck.len;refine go ?_;refine aB (Jg (s:=s) (v1:=v1) (v2:=v2) (v3:=v3) (v4:=v4) (l:=l) (o:=o) (fs:=fs) (day:=day) h4 hb1 hb2 hb3 hbf hx1 hx2 hx3 hx4 rfl rfl rfl) (next:=λy hy=>?_);obtain⟨vx,ex,X⟩:=y;obtain⟨rfl,hX⟩:=hy;refine go ?_;refine aB (NY (s:=s) (v1:=v1) (v2:=v2) (v3:=v3) (v4:=v4) (l:=l) (o:=o) (fs:=fs) (day:=day) h4 hb1 hb2 hb3 hbf hx1 hx2 hx3 hx4 rfl rfl rfl) (next:=λy hy=>?_);obtain⟨Sd,lo,hi⟩:=y;obtain⟨rfl,hT⟩:=hy;dsimp only at hX hT⊢;rcases NZ hr0 hol with⟨hE,hno⟩|⟨hE,zi⟩
 rotate_left
 ·rw[hE];refine go ?_;intro b13;refine go ?_;exact aj () (hv:=rfl) (hp:=trivial)
 obtain⟨pW,rY⟩:=hX hE;have hT:=hT hE;rw[hE];refine go ?_;intro b13;refine go ?_;refine aC rfl (λe1=>?_) (λe1=>?_)
 ·exfalso;omega
 refine go ?_;refine AL s.c.toNat ⟨by omega,by omega,by omega⟩ (hx:=by show Value.int .i64 _=_;congr 1;omega) (hy:=by show Value.int .i64 _=_;congr 1;omega) (λbl=>?_)
 rw[WA];refine go ?_;refine AL s.c.toNat ⟨by omega,by omega,by omega⟩ (hx:=by show Value.int .i64 _=_;congr 1;omega) (hy:=by show Value.int .i64 _=_;congr 1;omega) (λbh=>?_)
 rw[WA];refine go ?_;refine aB (VV (s:=s) (v1:=v1) (v2:=v2) (v3:=v3) (v4:=v4) (fs:=fs) (day:=day) oJ (by omega) hfl hx1 hx2 hx3 hx4) (next:=λvd _=>?_);refine eY (E:=ah) (v:=vd) (xs:=ints (aS s fs day)) (by simp) λad cd ed=>?_;subst ed;have hil:=om (aS s fs day);have hdl:=TM s fs day;have ahz:2^(aS s fs day).length<=256:=Nat.pow_le_pow_right (n:=2) (by decide) (show(aS s fs day).length<=8 by omega);refine go ?_;refine(bC rfl rfl (Lt (a:=1) (b:=(ints (aS s fs day)).length) rfl rfl (by omega) (by rw[EQ,hil];omega))).h ?_;rw[EQ,hil];refine go ?_;generalize hL:(λc:Nat=>(X.getD c dC).lo)=L;generalize hH:(λc:Nat=>(X.getD c dC).hi)=H;refine bR (λy:Nat×Bool×Bool=>2^(aS s fs day).length - y.1) (λy=>[(90,.int .i64 (y.1:Int)),(17,.bool y.2.1),(18,.bool y.2.2)]) (λy=>[pt bl (.cells ((fM (oz s l o fs day y.1) L [] s.c.toNat 0).map .bool)),pt bh (.cells ((fM (oz s l o fs day y.1) H [] s.c.toNat 0).map .bool))]) (λ_=>[]) (λy=>y.1<=2^(aS s fs day).length/\(y.2.1=(oz s l o fs day y.1).any λv=>decide (fA v=lo))/\(y.2.2=(oz s l o fs day y.1).any λv=>decide (fA v=hi))) (0,false,false) ⟨cu _,rfl,rfl⟩ (hk:=by
  rw[show oz s l o fs day 0=[]from rfl,Ug,Ug];repeat (first|exact aI.nil|(apply aI.cons;(focus (repeat (first|exact ai.here|apply ai.there)))))) (body:=?_)
 rintro⟨n,b17,b18⟩ ⟨hn,Ex,h18⟩;dsimp only at hn Ex h18⊢;refine go ?_;refine aC rfl (λh2=>?_) (λh2=>?_)
 ·refine go ?_;refine aB (ah1 (l:=l) (o:=o) (dq:=aS s fs day) (n:=n) hll hol (by omega) (by omega)) (next:=λvr _=>?_);have pV:eG s (rd l o (aS s fs day) n) fs day=0:=by rw[TW hol];exact hr0
  have BB:=Ij (s:=s) (fs:=fs) (day:=day) hr0 hol n;refine go ?_;refine aB (Jc (s:=s) (v1:=v1) (v2:=v2) (v3:=v3) (v4:=v4) (l:=rd l o (aS s fs day) n) (fs:=fs) (day:=day) hb1 hb2 hb3 hbf hx1 hx2 hx3 hx4) (next:=λy hy=>?_);obtain⟨vy,ey,Y⟩:=y;obtain⟨rfl,rfl⟩:=hy;dsimp only;rw[pV,Ep pV];refine go ?_;refine aB (VC (s:=s) (v1:=v1) (v2:=v2) (v3:=v3) (v4:=v4) (vl:=vy) (l:=bO (rd l o (aS s fs day) n) fs day) h4 hb1 hb2 hb3 hx1 hx2 hx3 hx4) (next:=λy hy=>?_);obtain⟨vz,ez,Z⟩:=y;obtain⟨rfl,rfl⟩:=hy;dsimp only;have WB:¬jm s (bO (rd l o (aS s fs day) n) fs day):=λh=>hno ⟨n,by omega,h⟩;obtain⟨e1,e2⟩:=yY BB WB;rw[e1,e2];have ain:=l7 BB;have qA:∀t∈dJ s (bO (rd l o (aS s fs day) n) fs day) s.p.toNat,t.length=s.c.toNat/\qE s.pz (iy t):=λt ht=>⟨lF ht,NT ain ht⟩
  have hTn:(dJ s (bO (rd l o (aS s fs day) n) fs day) s.p.toNat).length<=4096:=by
   apply Classical.byContradiction;intro hgt;exact WB ⟨s.p.toNat - 1,by omega,by rw[show s.p.toNat - 1+1=s.p.toNat by omega];omega⟩
  have hsucc:=TV (s:=s) (l:=l) (o:=o) (fs:=fs) (day:=day) n;have hmem:∀t∈dJ s (bO (rd l o (aS s fs day) n) fs day) s.p.toNat,gI s.pz t∈outs s l o fs day:=λt ht=>xM.2 ⟨n,by omega,t,ht,rfl⟩;rw[show y8 s l o fs day n=dJ s (bO (rd l o (aS s fs day) n) fs day) s.p.toNat from rfl]at hsucc;generalize dJ s (bO (rd l o (aS s fs day) n) fs day) s.p.toNat=T at qA hTn hsucc hmem⊢;generalize oz s l o fs day n=U at Ex h18 hsucc⊢;refine go ?_;refine bR (λy:Nat×Bool×Bool=>T.length - y.1) (λy=>[(119,.int .i64 (y.1:Int)),(17,.bool y.2.1),(18,.bool y.2.2)]) (λy=>[pt bl (.cells ((fM (U++(T.take y.1).map (gI s.pz)) L [] s.c.toNat 0).map .bool)),pt bh (.cells ((fM (U++(T.take y.1).map (gI s.pz)) H [] s.c.toNat 0).map .bool))]) (λ_=>[]) (λy=>y.1<=T.length/\(y.2.1=(U++(T.take y.1).map (gI s.pz)).any λv=>decide (fA v=lo))/\(y.2.2=(U++(T.take y.1).map (gI s.pz)).any λv=>decide (fA v=hi))) (0,b17,b18) ⟨cu _,by simpa using Ex,by simpa using h18⟩ (hk:=by
   rw[List.take_zero,List.map_nil,fU];repeat (first|exact aI.nil|(apply aI.cons;(focus (repeat (first|exact ai.here|apply ai.there)))))) (body:=?_)
  rintro⟨k,c17,c18⟩ ⟨hk,g17,g18⟩;dsimp only at hk g17 g18⊢;refine go ?_;refine aC rfl (λh3=>?_) (λh3=>?_)
  ·refine go ?_;refine cZ (bN ah) (k:=k) (next:=λ_ _ t (vt:Value) ht=>?_);obtain⟨htl,htp⟩:=qA t (dA ht);have hpl:=DN s.pz t;have hmu:=hmem t (dA ht);have Jl:U++(T.take (k+1)).map (gI s.pz)=(U++(T.take k).map (gI s.pz))++[gI s.pz t]:=by rw[eD ht,eB,ig];rfl
   refine go ?_;refine aB (Nl (xs:=t) (by omega)) (next:=λvr2 _=>?_);refine go ?_;refine aB (NJ (vp:=v4) (vl:=vr2) (p:=s.pz) (l:=iy t) hb3 (by rw[Bi];omega)) (next:=λy hy=>?_);obtain⟨ys,vp,ep⟩:=y;obtain⟨q1,q2⟩:=hy.1 htp;dsimp only at q1 q2;subst q1 q2;rw[show(iy t).map (jX s.pz (iy t))=gI s.pz t from rfl];dsimp only[I4,List.cons_append,List.nil_append];generalize gI s.pz t=u at hpl hmu Jl⊢;generalize U++(T.take k).map (gI s.pz)=V at g17 g18 Jl⊢;refine go ?_;refine aC rfl (λe5=>?_) (λe5=>?_)
   ·exfalso;omega
   refine go ?_;rw[Ue V L [] u,Ue V H [] u];refine bR (λc=>u.length - c) (λc:Nat=>[(142,.int .i64 (c:Int))]) (λc=>[pt bl (.cells ((fM V L u s.c.toNat c).map .bool)),pt bh (.cells ((fM V H u s.c.toNat c).map .bool))]) (λ_=>[]) (λc=>c<=u.length) 0 (cu _) (hk:=by repeat (first|exact aI.nil|(apply aI.cons;(focus (repeat (first|exact ai.here|apply ai.there)))))) (body:=?_);intro c hc;refine go ?_;refine aC rfl (λh6=>?_) (λh6=>?_)
   ·have hcC:c<s.c.toNat:=by omega
    have hx:X[c]? =some (X[c]'(by omega)):=bB _;generalize X[c]'(by omega)=x at hx;obtain⟨_,_,hrg⟩:=rY c x hx;have Oj:L c=x.lo:=by rw[<- hL];show(X.getD c dC).lo=_;rw[iA,hx];rfl
    have hHc:H c=x.hi:=by rw[<- hH];show(X.getD c dC).hi=_;rw[iA,hx];rfl
    have gL:(fM V L u s.c.toNat c)[c]? =some (V.any λv=>decide (v.getD c 0=L c)):=by rw[xN hcC,fB (EC c),wH,oP]
    have gH:(fM V H u s.c.toNat c)[c]? =some (V.any λv=>decide (v.getD c 0=H c)):=by rw[xN hcC,fB (EC c),wH,oP]
    refine go ?_;intro _ _ z hz;have Jm:u.getD c 0=z:=by rw[iA,hz];rfl
    have Fq:z∈DR (outs s l o fs day) c:=gD.2 ⟨u,hmu,Jm⟩;have z1:x.lo<=z:=hrg.1.2 z Fq;have z2:z<=x.hi:=hrg.2.2 z Fq;refine go ?_;refine cZ lI (k:=c) (v:=vx) (xs:=X) (next:=λbx1 Br w1 _ hw1=>?_);cases hx.symm.trans hw1;refine go ?_;refine bJ (bW bx1 (Br+2) [.int .i64 x.lo,.int .i64 x.hi]) (λw hw=>qC (m:=2) (hw _ (aR ..))) ?_;refine(ko (b:=bx1) (o:=Br+2) (j:=0) (v:=.int .i64 x.lo) rfl rfl rfl (aR ..) rfl).h ?_;refine go ?_;refine gG (λf1=>?_) (λf1=>?_)
    rotate_left
    ·exfalso;omega
    refine go ?_;refine cZ lI (k:=c) (v:=vx) (xs:=X) (next:=λoH oI w2 _ hw2=>?_);cases hx.symm.trans hw2;refine go ?_;refine bJ (bW oH (oI+2) [.int .i64 x.lo,.int .i64 x.hi]) (λw hw=>qC (m:=2) (hw _ (aR ..))) ?_;refine(ko (b:=oH) (o:=oI+2) (j:=1) (v:=.int .i64 x.hi) rfl rfl rfl (aR ..) rfl).h ?_;refine go ?_;refine aC rfl (λf2=>?_) (λf2=>?_)
    ·exfalso;omega
    refine go ?_;refine gp (o:=0+c*1) (cs:=(fM V L u s.c.toNat c).map .bool) (.bool (V.any λv=>decide (v.getD c 0=L c))) (by rw[bG,fV,bU,gL];rfl) ?_;refine go ?_;cases WC:V.any λv=>decide (v.getD c 0=L c)with
    |true=>
     refine go ?_;refine jk (o:=0+c*1) (cs:=(fM V L u s.c.toNat c).map .bool) (cs':=(fM V L u s.c.toNat (c+1)).map .bool) (v:=.bool true) (by rw[bG,fV,<- Bl (b:=true) hcC (by rw[WC];rfl),lS]) (by rw[bI,uN];omega) ?_;refine go ?_;refine gp (o:=0+c*1) (cs:=(fM V H u s.c.toNat c).map .bool) (.bool (V.any λv=>decide (v.getD c 0=H c))) (by rw[bG,fV,bU,gH];rfl) ?_;refine go ?_;cases Ey:V.any λv=>decide (v.getD c 0=H c)with
     |true=>
      refine go ?_;refine jk (o:=0+c*1) (cs:=(fM V H u s.c.toNat c).map .bool) (cs':=(fM V H u s.c.toNat (c+1)).map .bool) (v:=.bool true) (by rw[bG,fV,<- Bl (b:=true) hcC (by rw[Ey];rfl),lS]) (by rw[bI,uN];omega) ?_;refine go ?_;exact aL (c+1) (by omega) (by omega)
     |false=>
      refine go ?_;refine cZ lI (k:=c) (v:=vx) (xs:=X) (next:=λEz EA w6 _ Ol=>?_);cases hx.symm.trans Ol;refine go ?_;refine bJ (bW Ez (EA+2) [.int .i64 x.lo,.int .i64 x.hi]) (λw hw=>qC (m:=2) (hw _ (aR ..))) ?_;refine(ko (b:=Ez) (o:=EA+2) (j:=1) (v:=.int .i64 x.hi) rfl rfl rfl (aR ..) rfl).h ?_;refine go ?_;refine jk (o:=0+c*1) (cs:=(fM V H u s.c.toNat c).map .bool) (cs':=(fM V H u s.c.toNat (c+1)).map .bool) (v:=.bool (decide (z=x.hi))) (by rw[bG,fV,<- Bl (b:=decide (z=x.hi)) hcC (by rw[Ey,EH,Jm,hHc]),lS]) (by rw[bI,uN];omega) ?_;refine go ?_;exact aL (c+1) (by omega) (by omega)
    |false=>
     refine go ?_;refine cZ lI (k:=c) (v:=vx) (xs:=X) (next:=λzg zh w3 _ hw3=>?_);cases hx.symm.trans hw3;refine go ?_;refine bJ (bW zg (zh+2) [.int .i64 x.lo,.int .i64 x.hi]) (λw hw=>qC (m:=2) (hw _ (aR ..))) ?_;refine(ko (b:=zg) (o:=zh+2) (j:=0) (v:=.int .i64 x.lo) rfl rfl rfl (aR ..) rfl).h ?_;refine go ?_;refine jk (o:=0+c*1) (cs:=(fM V L u s.c.toNat c).map .bool) (cs':=(fM V L u s.c.toNat (c+1)).map .bool) (v:=.bool (decide (z=x.lo))) (by rw[bG,fV,<- Bl (b:=decide (z=x.lo)) hcC (by rw[WC,EH,Jm,Oj]),lS]) (by rw[bI,uN];omega) ?_;refine go ?_;refine gp (o:=0+c*1) (cs:=(fM V H u s.c.toNat c).map .bool) (.bool (V.any λv=>decide (v.getD c 0=H c))) (by rw[bG,fV,bU,gH];rfl) ?_;refine go ?_;cases Ey:V.any λv=>decide (v.getD c 0=H c)with
     |true=>
      refine go ?_;refine jk (o:=0+c*1) (cs:=(fM V H u s.c.toNat c).map .bool) (cs':=(fM V H u s.c.toNat (c+1)).map .bool) (v:=.bool true) (by rw[bG,fV,<- Bl (b:=true) hcC (by rw[Ey];rfl),lS]) (by rw[bI,uN];omega) ?_;refine go ?_;exact aL (c+1) (by omega) (by omega)
     |false=>
      refine go ?_;refine cZ lI (k:=c) (v:=vx) (xs:=X) (next:=λEz EA w6 _ Ol=>?_);cases hx.symm.trans Ol;refine go ?_;refine bJ (bW Ez (EA+2) [.int .i64 x.lo,.int .i64 x.hi]) (λw hw=>qC (m:=2) (hw _ (aR ..))) ?_;refine(ko (b:=Ez) (o:=EA+2) (j:=1) (v:=.int .i64 x.hi) rfl rfl rfl (aR ..) rfl).h ?_;refine go ?_;refine jk (o:=0+c*1) (cs:=(fM V H u s.c.toNat c).map .bool) (cs':=(fM V H u s.c.toNat (c+1)).map .bool) (v:=.bool (decide (z=x.hi))) (by rw[bG,fV,<- Bl (b:=decide (z=x.hi)) hcC (by rw[Ey,EH,Jm,hHc]),lS]) (by rw[bI,uN];omega) ?_;refine go ?_;exact aL (c+1) (by omega) (by omega)
   have hce:c=s.c.toNat:=by omega
   rw[hce,Uf V L u [],Uf V H u [],<- Jl];obtain⟨_,hur⟩:=Wn hr0 hol hmu;have hun:∀f:List Int->Bool,(U++(T.take (k+1)).map (gI s.pz)).any f=(V.any f||f u):=λf=>by rw[Jl,zB,Jv,List.any_nil,oP]
   have hsm:=agS (vl:=vp) (l:=u) (by omega) (λx hx=>by have:=hur x hx;omega);cases c17 with
   |true=>
    cases c18 with
    |true=>
     refine go ?_;refine Ws (λv=>by rfl) ?_;refine go ?_;exact aL (k+1,true,true) (by show T.length - (k+1)<T.length - k;omega) ⟨by show k+1<=_;omega,by rw[hun,<- g17];rfl,by rw[hun,<- g18];rfl⟩
    |false=>
     refine go ?_;refine ah0 (λv=>by rfl) ?_;refine aB hsm (next:=λ_ _=>?_);refine go ?_;exact aL (k+1,true,decide (fA u=hi)) (by show T.length - (k+1)<T.length - k;omega) ⟨by show k+1<=_;omega,by rw[hun,<- g17];rfl,by rw[hun,<- g18];rfl⟩
   |false=>
    cases c18 with
    |true=>
     refine go ?_;refine aB hsm (next:=λ_ _=>?_);refine go ?_;refine Ws (λv=>by rfl) ?_;refine go ?_;exact aL (k+1,decide (fA u=lo),true) (by show T.length - (k+1)<T.length - k;omega) ⟨by show k+1<=_;omega,by rw[hun,<- g17];rfl,by rw[hun,<- g18];rfl⟩
    |false=>
     refine go ?_;refine aB hsm (next:=λ_ _=>?_);refine go ?_;refine aB hsm (next:=λ_ _=>?_);refine go ?_;exact aL (k+1,decide (fA u=lo),decide (fA u=hi)) (by show T.length - (k+1)<T.length - k;omega) ⟨by show k+1<=_;omega,by rw[hun,<- g17];rfl,by rw[hun,<- g18];rfl⟩
  have hke:k=T.length:=by omega
  subst hke;rw[gV]at g17 g18⊢;rw[<- hsucc]at g17 g18⊢;refine go ?_;exact aL (n+1,c17,c18) (by show 2^(aS s fs day).length - (n+1)<2^(aS s fs day).length - n;omega) ⟨by show n+1<=_;omega,g17,g18⟩
 have hne:n=2^(aS s fs day).length:=by omega
 subst hne;rw[show oz s l o fs day (2^(aS s fs day).length)=outs s l o fs day from rfl]at Ex h18⊢;have aiq:b17=true:=by
  rw[Ex];obtain⟨u,hu,e⟩:=gD.1 hT.1.1;exact sw.2 ⟨u,hu,eP e⟩
 have air:b18=true:=by
  rw[h18];obtain⟨u,hu,e⟩:=gD.1 hT.2.1;exact sw.2 ⟨u,hu,eP e⟩
 rw[aiq,air];refine go ?_;refine bR (λc=>X.length - c) (λc:Nat=>[(220,.int .i64 (c:Int))]) (λ_=>[]) (λ_=>[]) (λc=>c<=X.length) 0 (cu _) (body:=?_);intro c hc;refine go ?_;refine aC rfl (λh3=>?_) (λh3=>?_)
 ·have hcC:c<s.c.toNat:=by omega
  have hx:X[c]? =some (X[c]'(by omega)):=bB _;generalize X[c]'(by omega)=x at hx;obtain⟨_,_,hrg⟩:=rY c x hx;have Oj:L c=x.lo:=by rw[<- hL];show(X.getD c dC).lo=_;rw[iA,hx];rfl
  have hHc:H c=x.hi:=by rw[<- hH];show(X.getD c dC).hi=_;rw[iA,hx];rfl
  have gL:(fM (outs s l o fs day) L [] s.c.toNat 0)[c]? =some true:=by
   rw[xN hcC];obtain⟨u,hu,e⟩:=gD.1 hrg.1.1;rw[sw.2 ⟨u,hu,eP (e.trans Oj.symm)⟩];rfl
  have gH:(fM (outs s l o fs day) H [] s.c.toNat 0)[c]? =some true:=by
   rw[xN hcC];obtain⟨u,hu,e⟩:=gD.1 hrg.2.1;rw[sw.2 ⟨u,hu,eP (e.trans hHc.symm)⟩];rfl
  refine go ?_;refine gp (o:=0+c*1) (cs:=(fM (outs s l o fs day) L [] s.c.toNat 0).map .bool) (.bool true) (by rw[bG,fV,bU,gL];rfl) ?_;refine go ?_;refine gp (o:=0+c*1) (cs:=(fM (outs s l o fs day) H [] s.c.toNat 0).map .bool) (.bool true) (by rw[bG,fV,bU,gH];rfl) ?_;refine go ?_;exact aL (c+1) (by omega) (by omega)
 refine go ?_;exact aj () (hv:=rfl) (hp:=trivial)
