/-
  Totals and ranks: add, Rank, Exact.
-/
import Derived.Test.YtbdaaopebgcnaaaGreatDoorLibEM
set_option linter.all false
set_option maxRecDepth 10000
set_option maxHeartbeats 4000000
namespace Go.Proofs.YtbdaaopebgcnaaaGreatDoor
open Go.Ideal Rk
noncomputable def Ro:=ym Tryz.prog 19
theorem acY:jD Tryz.prog 19=some Ro:=by kernel_rfl
noncomputable def Kw:=ym Tryz.prog 50
theorem Rp:jD Tryz.prog 50=some Kw:=by kernel_rfl
theorem acZ{cs:List Value}{m:Nat}(h:cs.length=m):gU (iE cs 0) m=some cs:=by
 rw[jE,jF,qi,if_pos (by omega),<- h,iB]
theorem Ky{xs:List Int}{k:Nat}{x:Int}(h:xs[k]? =some x):xs.getD k 0=x:=by rw[oh,h];rfl
theorem ac0{s:aJ}{v1 v2 v3 v4 vl vo vp:Value}{l:List aA}{p:Nat}{aU t:List Int}(h:BK s l)(hp:(p:Int)<s.p)(hpl:aU.length=(cz l p).length)(hpr:∀x∈aU,0<=x/\x<=1048576)(ht:t.length=8)(htr:∀x∈t,0<=x/\x<=1099511627776):
 aT Tryz.prog (.func 48) [.agg ⟨t.map (.int .i64)⟩,.agg ⟨kY s v1 v2 v3 v4⟩,vl,.int .i64 (p:Int),vo,vp] [] [] [mX 0 nQ,ae az v1 s.lv,ae az v2 s.cl,ae iw v3 s.pg,ae bR vl l,ae az vo (ints (cz l p)),ae az vp aU]
  (λ_:Unit=>.agg ⟨(iL s l p aU t).map (.int .i64)⟩) (λ_=>[]) (λ_=>[]) (λ_=>True):=by
 have hcl:=Qb l (p:Int);have hll:=h.len;have hil:=xy (cz l p);have hlv:=h.sh.lv;have M4:=h.sh.cl;refine aV _ (bB 48) λB w0=>?_;refine go ?_;intro b6 b7 b12;refine go ?_;refine dQ (λk=>(cz l p).length - k) (λk:Nat=>[(19,.int .i64 (k:Int))]) (λk=>[pt b6 (.cells ((addN s l p (cz l p) aU t k).map (.int .i64)))]) (λ_=>[]) (λk=>k<=(cz l p).length) 0 (dY _) (hk:=by repeat (first|exact aL.nil|(apply aL.cons;(focus (repeat (first|exact ah.here|apply ah.there)))))) (body:=?_);intro k hk;have Kz:=Fe s l p (cz l p) aU t k;have hTr:=JI (s:=s) (l:=l) (p:=p) (own:=cz l p) (aU:=aU) htr (by decide) k;have hsucc:addN s l p (cz l p) aU t (k+1)=add1 s l p (cz l p) aU (addN s l p (cz l p) aU t k) k:=rfl;generalize hT:addN s l p (cz l p) aU t k=T at Kz hTr hsucc⊢;refine go ?_;refine aM rfl (λh1=>?_) (λh1=>?_)
 ·obtain⟨FW,hok⟩:=Ff h.rs (p:=(p:Int)) (i:=k) (by omega);refine go ?_;intro _ _ i' hi';obtain⟨i,hi,rfl⟩:=Fg hi';have hgi:(cz l p).getD k 0=i:=by rw[oh,hi];rfl
  rw[hgi]at FW hok;refine go ?_;intro _ _ y hy _ _ z1 hz1 _ _ z2 hz2;have hyr:=hpr y (dA hy);have agr:=h.sh.JD z1 (dA hz1);have agt:=h.sh.JE z2 (dA hz2);have hx0:l[i]? =some (l[i]'FW):=bH _;have hgx:l.getD i dR=l[i]'FW:=by rw[oh,hx0];rfl
  rw[hgx]at hok;refine eX bR (k:=i) (next:=λbx ox x _ hx=>?_);have hxe:l[i]'FW=x:=Option.some.inj (hx0.symm.trans hx);rw[hxe]at hok hgx;refine go ?_;intro KA;have ac1:BJ [y,((ints (cz l p)).length:Int),z1,z2,x.t]:=by
   refine⟨rfl,λu hu=>?_⟩;have q1:=hok.t0;have q2:=hok.t1;simp only[bZ,zR,or_false]at hu;rcases hu with rfl|rfl|rfl|rfl|rfl<;>omega
  refine cu (A:=pt KA (.cells [.int .i64 y,.int .i64 ((ints (cz l p)).length:Int),.int .i64 z1,.int .i64 z2,.int .i64 x.t])) (fs:=[ae az (.slice (some ⟨KA,0,some 0⟩) 5 5) [y,((ints (cz l p)).length:Int),z1,z2,x.t]]) (rW (b:=KA) (f:=0) (c:=5) (xs:=[y,((ints (cz l p)).length:Int),z1,z2,x.t])) (h:=?_);refine aG (acQ (ws:=s.pg) (inp:=[y,((ints (cz l p)).length:Int),z1,z2,x.t]) h.pg ac1) (next:=λ_ _=>?_);have hpt:=P5 s.pg [y,((ints (cz l p)).length:Int),z1,z2,x.t];have hnext:addN s l p (cz l p) aU t (k+1)=T.set x.c.toNat (T.getD x.c.toNat 0+pts s.pg [y,((ints (cz l p)).length:Int),z1,z2,x.t]):=by
   rw[hsucc,add1,hgi,hgx,Ky hy,Ky hz1,Ky hz2,hil]
  generalize pts s.pg [y,((ints (cz l p)).length:Int),z1,z2,x.t]=q at hpt hnext;refine go ?_;refine eX bR (k:=i) (next:=λzz zA x2 _ hx2=>?_);cases hx.symm.trans hx2;have c0:=hok.c0;have c1:=hok.c1;have c8:=h.sh.c8;have hT0:=hTr _ (tX (st:=T) (k:=x.c.toNat) (by omega));refine go ?_;refine mV (o:=0+x.c.toNat*1) (cs:=T.map (.int .i64)) (.int .i64 (T.getD x.c.toNat 0)) (by rw[dB,jB,cK,zy (by omega)];rfl) ?_;refine go ?_;refine qO (o:=0+x.c.toNat*1) (cs:=T.map (.int .i64)) (cs':=(T.set x.c.toNat (T.getD x.c.toNat 0+q)).map (.int .i64)) (v:=.int .i64 (T.getD x.c.toNat 0+q)) (by rw[dB,jB,wD]) (by rw[bI];omega) ?_;rw[<- hnext];refine go ?_;exact aY (k+1) (by omega) (by omega)
 have hkl:k=(cz l p).length:=by omega
 subst hkl;have hTe:iL s l p aU t=T:=by rw[iL,hT]
 rw[ht]at Kz;rw[hTe];obtain⟨a0,a1,a2,a3,a4,a5,a6,a7,rfl⟩:=len8 Kz;refine go ?_;exact aj () (hv:=rfl) (hp:=trivial)
theorem ac2{vl:Value}{xs:List Int}(hl:xs.length<=1000000):aT Tryz.prog (.func 19) [vl] [] [] [ae az vl xs] (λv:Value=>v) (λ_=>[]) (λv=>[ae az v (iT xs)]) (λ_=>True):=by
 refine aV Ro acY λB w0=>?_;refine go ?_;refine wW az ?_;refine dQ (λy:Nat×Value=>xs.length - y.1) (λy=>[(10,.int .i64 (y.1:Int)),(2,y.2)]) (λy=>[ap az y.2 ((iT xs).take y.1)]) (λ_=>[]) (λy=>y.1<=xs.length) (0,.slice none 0 0) (dY _) (hk:=by repeat (first|exact aL.nil|(apply aL.cons;(focus (repeat (first|exact ah.here|apply ah.there)))))) (body:=?_);rintro⟨k,v⟩ hk;dsimp only at hk⊢;have hrl:(iT xs).length=xs.length:=bI ..;have htl:((iT xs).take k).length=k:=by rw[fB];omega
 refine go ?_;refine aM rfl (λh1=>?_) (λh1=>?_)
 ·refine go ?_;intro _ _ x hx;refine go ?_;refine dQ (λj=>xs.length - j) (λj:Nat=>[(16,.int .i64 (j:Int)),(5,.int .i64 (1+((xs.take j).countP λm=>decide (x<m):Nat):Int))]) (λ_=>[]) (λ_=>[]) (λj=>j<=xs.length) 0 (dY _) (body:=?_);intro j hj;have hcl:((xs.take j).countP λm=>decide (x<m))<=(xs.take j).length:=List.countP_le_length;rw[fB]at hcl;refine go ?_;refine aM rfl (λh2=>?_) (λh2=>?_)
  ·refine go ?_;intro _ _ z hz;have hs:((xs.take (j+1)).countP λm=>decide (x<m))=((xs.take j).countP λm=>decide (x<m))+if x<z then 1 else 0:=by rw[fG hz,List.countP_append,List.countP_singleton];simp
   refine go ?_;refine aM rfl (λh3=>?_) (λh3=>?_)
   ·rw[if_pos h3]at hs;refine go ?_;rw[show(1+(((xs.take j).countP λm=>decide (x<m):Nat):Int))+1=1+(((xs.take (j+1)).countP λm=>decide (x<m):Nat):Int)by rw[hs];omega];exact aY (j+1) (by omega) (by omega)
   ·have hs2:((xs.take j).countP λm=>decide (x<m))=((xs.take (j+1)).countP λm=>decide (x<m)):=by rw[hs,if_neg h3,rE]
    rw[hs2];refine go ?_;exact aY (j+1) (by omega) (by omega)
  have hjl:j=xs.length:=by omega
  subst hjl;rw[iB];refine go ?_;intro b28;refine go ?_;have zB:(iT xs)[k]? =some (1+((xs.countP λm=>decide (x<m):Nat):Int)):=by unfold iT;rw[cK,hx];rfl
  refine qN (xs:=(iT xs).take k) az (1+((xs.countP λm=>decide (x<m):Nat):Int)) () (by omega) (next:=λad=>?_);rw[<- fG zB];refine go ?_;exact aY (k+1,.slice ad (((iT xs).take k).length+1) (((iT xs).take k).length+1)) (by show xs.length - (k+1)<xs.length - k;omega) (by show k+1<=_;omega)
 have hkl:k=xs.length:=by omega
 subst hkl;rw[rH (by omega)];refine go ?_;refine cu (A:=ap az v (iT xs)) (fs:=[ae az v (iT xs)]) wV (h:=?_);exact aj v (hv:=rfl) (hp:=trivial)
theorem ac3{a:Addr}{m c:Nat}{xs:List Int}(h0:0<xs.length)(hl:xs.length<=1000000):aT Tryz.prog (.func 50) [.slice (some a) m c] [] [] [ae az (.slice (some a) m c) xs] (λv:Value=>v) (λ_=>[]) (λv=>[ae az v xs]) (λ_=>True):=by
 refine aV Kw Rp λB w0=>?_;refine go ?_;refine(bV rfl rfl (EL (e:=3) (by kernel_rfl) rfl)).h ?_;refine go ?_;intro b5;refine go ?_;refine YS (b:=b5) (xs:=xs) h0 ⟨by omega,by omega⟩ (λb'=>?_);refine go ?_;refine cu (A:=pt b' (.cells (xs.map (.int .i64)))) (fs:=[ae az (.slice (some ⟨b',0,some 1⟩) xs.length xs.length) xs]) (rW (b:=b') (f:=1) (c:=xs.length) (xs:=xs)) (h:=?_);exact aj (.slice (some ⟨b',0,some 1⟩) xs.length xs.length) (hv:=rfl) (hp:=trivial)
structure ExY where
 v:Value
 e:Int
 xs:List Int
theorem ac4(n:Nat):zeros [.int .i64 0] n=(List.replicate n (0:Int)).map (.int .i64):=by
 induction n with
 |zero=>rfl
 |succ n ih=>rw[Gh,lc,<- ih];rfl
theorem ac5{P:Program}{ρ:Operand->Value}{x hi:Operand}{b m n size:Nat}(hx:ρ x=.pointer (some ⟨b,0,none⟩))(hh:ρ hi=.int .i64 (m:Int))(hm:m<=n):Pu P ρ (.CO n size x none (some hi) none) (.slice (some ⟨b,0,some 0⟩) m n):=λh=>by
 have hbd:bounds? n n (eO ρ none) (eO ρ (some hi)) (eO ρ none)=some (0,m,n):=by
  show bounds? n n none (some (ρ hi)) none=_;rw[hh];show(match upTo n (.int .i64 (m:Int))with|none=>none|some h=>match some 0 with|none=>none|some l=>some (l,h,n))=_;rw[Bw hm]
 simp only[ai.run,hx,hbd];show some (Value.slice (rO b (Nat.add 0 (Nat.mul 0 size))) (Nat.sub m 0) (Nat.sub n 0),h)=_;rw[show Nat.mul 0 size=0 from og _];rfl
theorem ac6{w:Wd}{b m c:Nat}{T:List Int}(h:(bU b 0 (T.map (.int .i64))).p w)(h1:m<=T.length)(h2:m<=c):(ae az (.slice (some ⟨b,0,some 0⟩) m c) (T.take m)).p w:=by
 obtain⟨cells,q1,q2⟩:=h;refine .inr ⟨b,0,0,c,cells,⟨by rw[fB,Nat.min_eq_left h1],by rw[fB];omega,.inl rfl⟩,q1,λk x hx=>⟨(),λj u hj=>?_,λf hf=>by cases hf⟩⟩;have hx:T[k]? =some x:=by
  have hk:=(dU.1 hx).1;rw[fB]at hk
  rwa [qd,if_pos (by omega)]at hx
 match j,hj with
 |0,hj=>
  cases hj;rw[show 0+k*az.n+0=0+k by show 0+k*1+0=_;omega];exact q2 k _ (by rw[cK,hx];rfl)
