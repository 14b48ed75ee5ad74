/-
  entitle: the doubtful puzzles, the readings.
-/
import Derived.Test.YtbdaaopebgcnaaaGreatDoorLibTM
set_option linter.all false
set_option maxRecDepth 10000
set_option maxHeartbeats 4000000
namespace Go.Proofs.YtbdaaopebgcnaaaGreatDoor
open Go.Ideal Rk En
abbrev qL(s:aJ)(v1 v2 v3 v4 vl vo vf:Value)(day:Int):List Value:=[.int .i64 s.c,.int .i64 s.p,v1,v2,v3,v4,vl,vo,vf,.int .i64 day]
theorem aeK{va:Value}{xs:List Int}{x:Int}(hl:xs.length<9223372036854775808):aT Tryz.prog (.func 80) [va,.int .i64 x] [] [] [ae az va xs] (λr:Int=>.int .i64 r) (λ_=>[]) (λ_=>[]) (λr=>(r= -1/\x∉xs)\/∃k:Nat,r=(k:Int)/\xs[k]? =some x):=by
 refine aV _ (bB 80) λB w0=>?_;refine go ?_;refine dQ (λk=>xs.length - k) (λk:Nat=>[(8,.int .i64 (k:Int))]) (λ_=>[]) (λ_=>[]) (λk=>k<=xs.length/\x∉xs.take k) 0 ⟨dY _,by simp⟩ (body:=?_);rintro k ⟨hk,hno⟩;refine go ?_;refine aM rfl (λh1=>?_) (λh1=>?_)
 ·refine go ?_;intro _ _ z hz;refine go ?_;refine aM rfl (λh2=>?_) (λh2=>?_)
  ·subst h2;refine go ?_;exact aj (k:Int) (hv:=rfl) (hp:=.inr ⟨k,rfl,hz⟩)
  ·refine go ?_;refine aY (k+1) (by omega) ⟨by omega,?_⟩;rw[fG hz,fI,cB];exact λh=>h.elim hno h2
 have hkl:k=xs.length:=by omega
 subst hkl;rw[iB]at hno;refine go ?_;exact aj (-1) (hv:=rfl) (hp:=.inl ⟨rfl,hno⟩)
theorem aeL{b1 b2:Nat}{s:aJ}{v1 v2 v3 v4 vl vo vf:Value}{day p:Int}{f:aR}:F7 Tryz.prog (.func 108) [] [ptr' b1,ptr' b2] [bU b1 0 [.int .i64 p],bU b2 0 (qL s v1 v2 v3 v4 vl vo vf day)] (λf=>decide (f.p=p)&&(decide (f.k=3)&&decide (f.d<=day))) f:=by
 intro v;refine aV _ (bB 108) λB w0=>?_;refine eU (E:=az) (v:=v) (xs:=f.g) (by simp) λa c e=>?_;subst e;refine go ?_;intro b3;refine go ?_;refine gG (λe1=>?_) (λe1=>?_)
 ·refine go ?_;exact aj false (hv:=rfl) (hp:=by dsimp only;rw[gq e1];rfl)
 refine go ?_;refine gG (λe2=>?_) (λe2=>?_)
 ·refine go ?_;exact aj false (hv:=rfl) (hp:=by dsimp only;rw[gq e2];simp)
 refine go ?_;exact aj (decide (f.d<=day)) (hv:=rfl) (hp:=by dsimp only;rw[fK e1,fK e2];rfl)
theorem aeM{s:aJ}{v1 v2 v3 v4 vl vo vf:Value}{fs:List aR}{day:Int}(wh:s.p<=8)(hp0:0<=s.p)(hfl:fs.length<=16)(hx1:cellsOf v1=some [v1])(hx2:cellsOf v2=some [v2])(hx3:cellsOf v3=some [v3])(hx4:cellsOf v4=some [v4])(hx5:cellsOf vl=some [vl])(hx6:cellsOf vo=some [vo])(hx7:cellsOf vf=some [vf]):
 aT Tryz.prog (.func 79) [.agg ⟨qL s v1 v2 v3 v4 vl vo vf day⟩] [] [] [ae eF vf fs] (λv:Value=>v) (λ_=>[]) (λv=>[ae az v (ints (bu s fs day))]) (λ_=>True):=by
 refine aV _ (bB 79) λB w0=>?_;refine go ?_;intro b1;refine cu (fT (b:=b1)) (h:=?_);refine go ?_;refine wW az ?_;refine dQ (λy:Nat×Value=>s.p.toNat - y.1) (λy=>[(7,.int .i64 (y.1:Int)),(2,y.2)]) (λy=>[ap az y.2 (ints (nu fs day y.1))]) (λ_=>[]) (λy=>(y.1:Int)<=s.p) (0,.slice none 0 0) hp0 (hk:=by repeat (first|exact aL.nil|(apply aL.cons;(focus (repeat (first|exact ah.here|apply ah.there)))))) (body:=?_);rintro⟨p,v2'⟩ hp;dsimp only at hp⊢;have hdl:=aeJ fs day p;have hil:=xy (nu fs day p);refine go ?_;refine aM rfl (λh1=>?_) (λh1=>?_)
 ·refine go ?_;intro b3;refine cu (fT (b:=b3)) (h:=?_);refine go ?_;refine aG (Sm (fs:=fs) (p:=λf=>decide (f.p=p)&&(decide (f.k=3)&&decide (f.d<=day))) (by omega) (λf _=>aeL (b1:=b3) (b2:=b1) (s:=s) (v1:=v1) (v2:=v2) (v3:=v3) (v4:=v4) (vl:=vl) (vo:=vo) (vf:=vf) (day:=day) (p:=p))) (next:=λb hb=>?_);refine go ?_;refine jO rfl (λh3=>?_) (λh3=>?_)
  ·refine go ?_;intro b16;refine go ?_;refine qN (xs:=ints (nu fs day p)) az (p:Int) () (by omega) (next:=λad=>?_);rw[<- Qe,show nu fs day p++[p]=nu fs day (p+1)by rw[Sz,if_pos (show sG fs day p=true from hb.symm.trans h3)]];refine go ?_;exact aY (p+1,.slice ad ((ints (nu fs day p)).length+1) ((ints (nu fs day p)).length+1)) (by show s.p.toNat - (p+1)<s.p.toNat - p;omega) (by show((p+1:Nat):Int)<=_;omega)
  ·rw[show nu fs day p=nu fs day (p+1)by rw[Sz,if_neg (by rw[show sG fs day p=b from hb.symm,h3];simp)]];refine go ?_;exact aY (p+1,v2') (by show s.p.toNat - (p+1)<s.p.toNat - p;omega) (by show((p+1:Nat):Int)<=_;omega)
 have hpe:p=s.p.toNat:=by omega
 subst hpe;rw[show nu fs day s.p.toNat=bu s fs day from rfl];refine cu (wV (E:=az) (v:=v2') (xs:=ints (bu s fs day))) (h:=?_);refine go ?_;exact aj v2' (hv:=rfl) (hp:=trivial)
theorem aeN{s:aJ}{v1 v2 v3 v4 vl vo vf:Value}{day:Int}(hx1:cellsOf v1=some [v1])(hx2:cellsOf v2=some [v2])(hx3:cellsOf v3=some [v3])(hx4:cellsOf v4=some [v4])(hx5:cellsOf vl=some [vl])(hx6:cellsOf vo=some [vo])(hx7:cellsOf vf=some [vf]):
 aT Tryz.prog (.func 62) [.agg ⟨qL s v1 v2 v3 v4 vl vo vf day⟩] [] [] [] (λb:Nat=>.func (.func 78) #[] #[ptr' b]) (λ_=>[]) (λb=>[bU b 0 (qL s v1 v2 v3 v4 vl vo vf day)]) (λ_=>True):=by
 refine aV _ (bB 62) λB w0=>?_;refine go ?_;intro b1;refine cu (fT (b:=b1)) (h:=?_);refine go ?_;exact aj b1 (hv:=rfl) (hp:=trivial)
def mi(l:List aA)(o:List Bool)(dq:List Nat)(n k:Nat):List aA:=rd (l.take k) (o.take k) dq n++l.drop k
theorem aeO{l:List aA}{o:List Bool}{dq:List Nat}{n:Nat}:mi l o dq n 0=l:=by simp[mi,rd]
theorem aeP{l:List aA}{o:List Bool}{dq:List Nat}{n:Nat}(h:o.length=l.length):mi l o dq n l.length=rd l o dq n:=by
 unfold mi;rw[iB,rH (by omega),uG (aC _),fJ]
theorem Cr{l:List aA}{o:List Bool}{dq:List Nat}{n k:Nat}(h:o.length=l.length)(hk:k<=l.length):(rd (l.take k) (o.take k) dq n).length=k:=by
 rw[J2 (by rw[fB,fB,h]),fB];omega
theorem aeQ{l:List aA}{o:List Bool}{dq:List Nat}{n k:Nat}(h:o.length=l.length)(hk:k<=l.length):(mi l o dq n k).length=l.length:=by
 unfold mi;rw[dK,Cr h hk,iY];omega
theorem aeR{l:List aA}{o:List Bool}{dq:List Nat}{n k:Nat}{x:aA}(h:o.length=l.length)(hx:l[k]? =some x):(mi l o dq n k)[k]? =some x:=by
 have hk:=(dU.1 hx).1;unfold mi;rw[lN (by rw[Cr h (by omega)];omega),Cr h (by omega),uE,iV,rE,hx]
theorem aeS{l:List aA}{o:List Bool}{dq:List Nat}{n k:Nat}{x:aA}{b:Bool}(h:o.length=l.length)(hx:l[k]? =some x)(hb:o[k]? =some b):(mi l o dq n k).set k (if jK dq n x.p then{x with r:=b}else x)=mi l o dq n (k+1):=by
 have hk:=(dU.1 hx).1;unfold mi;rw[List.set_append_right _ _ (by rw[Cr h (by omega)];omega),Cr h (by omega),uE,fG hx,fG hb,zV hk];unfold rd;rw[List.zipWith_append (by rw[fB,fB,h]),gY];rfl
theorem SA{α:Type}{l:List α}{k:Nat}{x:α}(h:l[k]? =some x):l.set k x=l:=by
 apply jX;intro i;by_cases e:i=k
 ·subst e;rw[List.getElem?_set_self (dU.1 h).1,h]
 ·rw[List.getElem?_set_ne (Ne.symm e)]
theorem aeT{dq:List Nat}{n:Nat}{p:Int}(h:p∉ints dq):jK dq n p=false:=by
 rw[Bool.eq_false_iff];intro k;obtain⟨q,hq,rfl⟩:=QG k;exact h (uF hq)
theorem aeU{dq:List Nat}(hn:dq.Nodup){n k:Nat}{p:Int}(h:(ints dq)[k]? =some p):jK dq n p=n.testBit k:=by
 obtain⟨i,hi,rfl⟩:=Fg h;obtain⟨hk,rfl⟩:=dU.1 hi;exact abA hn hk
abbrev ny:=List aA×Value
abbrev F9(x:ny):List Value:=[x.2]
abbrev Cs(x:ny):List aB:=[ae bR x.2 x.1]
def wo(xs:List (List aA)):List ny:=xs.map λx=>(x,.slice none 0 0)
theorem SB(xs:List (List aA)):(wo xs).map (·.1)=xs:=by unfold wo;rw[zW];exact CG _
theorem aeV{b:Nat}{s:aJ}{v1 v2 v3 v4 vl vo vf:Value}{l:List aA}{o:List Bool}{fs:List aR}{day:Int}(wh:s.p<=8)(hp0:0<=s.p)(hfl:fs.length<=16)(hll:l.length<=32)(hol:o.length=l.length)(hx1:cellsOf v1=some [v1])(hx2:cellsOf v2=some [v2])(hx3:cellsOf v3=some [v3])(hx4:cellsOf v4=some [v4])(hx5:cellsOf vl=some [vl])(hx6:cellsOf vo=some [vo])(hx7:cellsOf vf=some [vf]):
 Jk Tryz.prog F9 Cs (.func 78) [] [ptr' b] [bU b 0 (qL s v1 v2 v3 v4 vl vo vf day),ae bR vl l,ae mO vo o,ae eF vf fs] (λxs=>xs.map (·.1)=(List.range (2^(bu s fs day).length)).map (rd l o (bu s fs day))):=by
 intro S inv ok step s0 vG y1 y2 F' h0 hok hy;rw[fC,fC,fC,fC,dw];have hdl:=aby s fs day;have hdn:=abx s fs day;have hil:=xy (bu s fs day);have agH:2^(bu s fs day).length<=256:=Nat.pow_le_pow_right (n:=2) (by decide) (show(bu s fs day).length<=8 by omega);refine aV _ (bB 78) λB w0=>?_;refine go ?_;refine aG (aeM (s:=s) (v1:=v1) (v2:=v2) (v3:=v3) (v4:=v4) (vl:=vl) (vo:=vo) (vf:=vf) (fs:=fs) (day:=day) wh hp0 hfl hx1 hx2 hx3 hx4 hx5 hx6 hx7) (next:=λvd _=>?_);refine go ?_;refine(bV rfl rfl (Oj (a:=1) (b:=(ints (bu s fs day)).length) rfl rfl (by omega) (by rw[LA,hil];omega))).h ?_;rw[LA,hil];refine go ?_;refine dQ (λy:Nat×List ny×S=>2^(bu s fs day).length - y.1) (λy=>[(13,.int .i64 (y.1:Int))]) (λy=>inv y.2.2) (λ_=>[]) (λy=>y.1<=2^(bu s fs day).length/\ok y.2.1 y.2.2/\y.2.1.map (·.1)=(List.range y.1).map (rd l o (bu s fs day))/\∀rest,fF step s0 (y.2.1++rest)=fF step y.2.2 rest) (0,[],s0) ⟨dY _,h0,rfl,λ_=>rfl⟩ (body:=?_);rintro⟨n,bY,st⟩ ⟨hn,hos,zG,hrun⟩;dsimp only at hn hos zG hrun⊢;refine go ?_;refine aM rfl (λh1=>?_) (λh1=>?_)
 ·refine go ?_;refine aG (Sr (v:=vl) (l:=l) hll) (next:=λy hy0=>?_);obtain⟨hy1,hy2⟩:=hy0;cases y with
  |none=>
   have hl0:=hy1 rfl;have hrd:rd l o (bu s fs day) n=[]:=by rw[hl0];rfl
   dsimp only[Co,Cq,List.nil_append];refine go ?_;refine dQ (λ_:Unit=>0) (λ_=>[]) (λ_=>[]) (λ_=>[]) (λ_=>True) () trivial (body:=?_);intro _ _;refine go ?_;refine bX (ae bR (.slice none 0 0) (rd l o (bu s fs day) n)) (λw _=>by rw[hrd];exact wm w) ?_;have hnx:(List.range (n+1)).map (rd l o (bu s fs day))=(List.range n).map (rd l o (bu s fs day))++[rd l o (bu s fs day) n]:=by rw[List.range_succ,dM];rfl
   have hX:(bY++(rd l o (bu s fs day) n,.slice none 0 0)::wo ((List.range' (n+1) (2^(bu s fs day).length - (n+1))).map (rd l o (bu s fs day)))).map (·.1)=(List.range (2^(bu s fs day).length)).map (rd l o (bu s fs day)):=by
    rw[dM,lc,SB,zG,Gg,Gg,show 2^(bu s fs day).length=n+(1+(2^(bu s fs day).length - (n+1)))by omega,<- LB,dM,<- LB,dM,dB];rw[show n+(1+(2^(bu s fs day).length - (n+1))) - (n+1)=2^(bu s fs day).length - (n+1)by omega];rfl
   generalize hxd:((rd l o (bu s fs day) n,.slice none 0 0):ny)=x at hX;have oI:=hy _ st _ _ hos hX;rw[show F9 x=[.slice none 0 0]by rw[<- hxd],show Cs x=[ae bR (.slice none 0 0) (rd l o (bu s fs day) n)]by rw[<- hxd]]at oI;rw[fC,dw]at oI;refine go ?_;refine aG oI (next:=λ_ _=>?_);cases hst:(step st x).2 with
   |true=>
    have hs1:step st x=((step st x).1,true):=Prod.ext rfl hst;refine go ?_;refine aY (n+1,bY++[x],(step st x).1) (by show 2^(bu s fs day).length - (n+1)<2^(bu s fs day).length - n;omega) ⟨by show n+1<=_;omega,hok _ st _ _ hos hX hst,?_,λrest=>?_⟩
    ·show(bY++[x]).map (·.1)=_;rw[dM,List.map_singleton,zG,hnx,<- hxd]
    ·show fF step s0 (bY++[x]++rest)=_;rw[gY,hrun];show fF step st (x::rest)=_;rw[fF,hs1]
   |false=>
    have hs1:step st x=((step st x).1,false):=Prod.ext rfl hst;have hr:=hrun (x::wo ((List.range' (n+1) (2^(bu s fs day).length - (n+1))).map (rd l o (bu s fs day))));rw[fF,hs1]at hr;dsimp only at hr;refine go ?_;exact aj (bY++x::wo ((List.range' (n+1) (2^(bu s fs day).length - (n+1))).map (rd l o (bu s fs day)))) (hv:=rfl) (hp:=hX) (hk:=by rw[hr];first|exact aL.all _|exact aL.self _ _)
  |some bf=>
   obtain⟨bs,f⟩:=bf;have hf:=hy2 bs f rfl;dsimp only[Co,Cq,List.cons_append,List.nil_append];refine go ?_;refine dQ (λk=>l.length - k) (λk:Nat=>[(21,.int .i64 (k:Int))]) (λk=>[pt bs (.cells (jg (mi l o (bu s fs day) n k)))]) (λ_=>[]) (λk=>k<=l.length) 0 (dY _) (hk:=by
    rw[aeO];apply aL.cons
    ·exact ah.here
    ·exact aL.nil) (body:=?_)
   intro k hk;refine go ?_;refine aM rfl (λh5=>?_) (λh5=>?_)
   ·have hx:l[k]? =some (l[k]'(by omega)):=bH _;generalize l[k]'(by omega)=x at hx;have hb:o[k]? =some (o[k]'(by omega)):=bH _;generalize o[k]'(by omega)=bv at hb;have uy:=aeR (dq:=bu s fs day) (n:=n) hol hx;have aeW:=Sd (mi l o (bu s fs day) n k);rw[aeQ hol hk]at aeW;have hset:=aeS (dq:=bu s fs day) (n:=n) hol hx hb;refine go ?_;refine mV (o:=0+k*6+1) (cs:=jg (mi l o (bu s fs day) n k)) (.int .i64 x.p) (by rw[dB];exact K4 uy rfl) ?_;refine go ?_;refine aG (aeK (xs:=ints (bu s fs day)) (x:=x.p) (by omega)) (next:=λr hr=>?_);rcases hr with⟨rfl,hno⟩|⟨j,rfl,hj⟩
    ·rw[aeT hno,if_neg (by simp),SA uy]at hset;rw[hset];refine go ?_;exact aY (k+1) (by omega) (by omega)
    ·have hjl:=(dU.1 hj).1;rw[aeU hdn hj]at hset;refine go ?_;refine(bV rfl rfl (Bq (a:=n) (b:=j) rfl rfl (by omega))).h ?_;refine(bV rfl rfl (Br (b:=1) rfl rfl (zU (Gn _ _) (by omega)) (by omega))).h ?_;refine go ?_;rw[Fx];refine jO rfl (λhbt=>?_) (λhbt=>?_)
     ·rw[hbt,if_pos rfl]at hset;refine go ?_;intro _ _ b' hb';cases hb.symm.trans hb';refine go ?_;refine qO (o:=0+k*6+5) (cs:=jg (mi l o (bu s fs day) n k)) (cs':=jg (mi l o (bu s fs day) n (k+1))) (v:=.bool bv) (by rw[dB,K5 uy,hset]) (by omega) ?_;refine go ?_;exact aY (k+1) (by omega) (by omega)
     ·rw[hbt,if_neg (by simp),SA uy]at hset;rw[hset];refine go ?_;exact aY (k+1) (by omega) (by omega)
   have hkl:k=l.length:=by omega
   subst hkl;rw[aeP hol];refine Sj (l:=rd l o (bu s fs day) n) (b:=bs) (f:=f) hf (hk:=.here) (h:=?_);rw[J2 hol];have hnx:(List.range (n+1)).map (rd l o (bu s fs day))=(List.range n).map (rd l o (bu s fs day))++[rd l o (bu s fs day) n]:=by rw[List.range_succ,dM];rfl
   have hX:(bY++(rd l o (bu s fs day) n,.slice (some ⟨bs,0,some f⟩) l.length l.length)::wo ((List.range' (n+1) (2^(bu s fs day).length - (n+1))).map (rd l o (bu s fs day)))).map (·.1)=(List.range (2^(bu s fs day).length)).map (rd l o (bu s fs day)):=by
    rw[dM,lc,SB,zG,Gg,Gg,show 2^(bu s fs day).length=n+(1+(2^(bu s fs day).length - (n+1)))by omega,<- LB,dM,<- LB,dM,dB];rw[show n+(1+(2^(bu s fs day).length - (n+1))) - (n+1)=2^(bu s fs day).length - (n+1)by omega];rfl
   generalize hxd:((rd l o (bu s fs day) n,.slice (some ⟨bs,0,some f⟩) l.length l.length):ny)=x at hX;have oI:=hy _ st _ _ hos hX;rw[show F9 x=[.slice (some ⟨bs,0,some f⟩) l.length l.length]by rw[<- hxd],show Cs x=[ae bR (.slice (some ⟨bs,0,some f⟩) l.length l.length) (rd l o (bu s fs day) n)]by rw[<- hxd]]at oI;rw[fC,dw]at oI;refine go ?_;refine aG oI (next:=λ_ _=>?_);cases hst:(step st x).2 with
   |true=>
    have hs1:step st x=((step st x).1,true):=Prod.ext rfl hst;refine go ?_;refine aY (n+1,bY++[x],(step st x).1) (by show 2^(bu s fs day).length - (n+1)<2^(bu s fs day).length - n;omega) ⟨by show n+1<=_;omega,hok _ st _ _ hos hX hst,?_,λrest=>?_⟩
    ·show(bY++[x]).map (·.1)=_;rw[dM,List.map_singleton,zG,hnx,<- hxd]
    ·show fF step s0 (bY++[x]++rest)=_;rw[gY,hrun];show fF step st (x::rest)=_;rw[fF,hs1]
   |false=>
    have hs1:step st x=((step st x).1,false):=Prod.ext rfl hst;have hr:=hrun (x::wo ((List.range' (n+1) (2^(bu s fs day).length - (n+1))).map (rd l o (bu s fs day))));rw[fF,hs1]at hr;dsimp only at hr;refine go ?_;exact aj (bY++x::wo ((List.range' (n+1) (2^(bu s fs day).length - (n+1))).map (rd l o (bu s fs day)))) (hv:=rfl) (hp:=hX) (hk:=by rw[hr];first|exact aL.all _|exact aL.self _ _)
 have hne:n=2^(bu s fs day).length:=by omega
 subst hne;have hr:=hrun [];rw[fJ]at hr;refine go ?_;exact aj bY (hv:=rfl) (hp:=zG) (hk:=by rw[hr];exact aL.all _)
