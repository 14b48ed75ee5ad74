/-
  entitle: the doubtful puzzles, the readings.
-/
import Derived.Test.YtbdaaopebgcnaaaGreatDoorLibTM
set_option linter.all false
set_option maxRecDepth 10000
set_option maxHeartbeats 4000000
namespace Go.Proofs.YtbdaaopebgcnaaaGreatDoor
open Go.Ideal Rk En
abbrev qL(s:aK)(v1 v2 v3 v4 vl vo vf:Value)(day:Int):List Value:=[.int .i64 s.c,.int .i64 s.p,v1,v2,v3,v4,vl,vo,vf,.int .i64 day]
theorem ahs{va:Value}{xs:List Int}{x:Int}(hl:xs.length<9223372036854775808):aX Tryz.prog (.func 80) [va,.int .i64 x] [] [] [ae ah va xs] (λr:Int=>.int .i64 r) (λ_=>[]) (λ_=>[]) (λr=>(r= -1/\x∉xs)\/∃k:Nat,r=(k:Int)/\xs[k]? =some x):=by
 refine aT _ (bz 80) λB w0=>?_;refine go ?_;refine bR (λk=>xs.length - k) (λk:Nat=>[(8,.int .i64 (k:Int))]) (λ_=>[]) (λ_=>[]) (λk=>k<=xs.length/\x∉xs.take k) 0 ⟨cu _,by simp⟩ (body:=?_);rintro k ⟨hk,hno⟩;refine go ?_;refine aC rfl (λh1=>?_) (λh1=>?_)
 ·refine go ?_;intro _ _ z hz;refine go ?_;refine aC rfl (λh2=>?_) (λh2=>?_)
  ·subst h2;refine go ?_;exact aj (k:Int) (hv:=rfl) (hp:=.inr ⟨k,rfl,hz⟩)
  ·refine go ?_;refine aL (k+1) (by omega) ⟨by omega,?_⟩;rw[eD hz,gF,cz];exact λh=>h.elim hno h2
 have hkl:k=xs.length:=by omega
 subst hkl;rw[gV]at hno;refine go ?_;exact aj (-1) (hv:=rfl) (hp:=.inl ⟨rfl,hno⟩)
theorem aht{b1 b2:Nat}{s:aK}{v1 v2 v3 v4 vl vo vf:Value}{day p:Int}{f:aU}:I9 Tryz.prog (.func 108) [] [ptr' b1,ptr' b2] [bW b1 0 [.int .i64 p],bW b2 0 (qL s v1 v2 v3 v4 vl vo vf day)] (λf=>decide (f.p=p)&&(decide (f.k=3)&&decide (f.d<=day))) f:=by
 intro v;refine aT _ (bz 108) λB w0=>?_;refine eY (E:=ah) (v:=v) (xs:=f.g) (by simp) λa c e=>?_;subst e;refine go ?_;intro b3;refine go ?_;refine gG (λe1=>?_) (λe1=>?_)
 ·refine go ?_;exact aj false (hv:=rfl) (hp:=by dsimp only;rw[fB e1];rfl)
 refine go ?_;refine gG (λe2=>?_) (λe2=>?_)
 ·refine go ?_;exact aj false (hv:=rfl) (hp:=by dsimp only;rw[fB e2];simp)
 refine go ?_;exact aj (decide (f.d<=day)) (hv:=rfl) (hp:=by dsimp only;rw[eP e1,eP e2];rfl)
theorem ahu{s:aK}{v1 v2 v3 v4 vl vo vf:Value}{fs:List aU}{day:Int}(oJ:s.p<=8)(hp0:0<=s.p)(hfl:fs.length<=16)(hx1:cellsOf v1=some [v1])(hx2:cellsOf v2=some [v2])(hx3:cellsOf v3=some [v3])(hx4:cellsOf v4=some [v4])(hx5:cellsOf vl=some [vl])(hx6:cellsOf vo=some [vo])(hx7:cellsOf vf=some [vf]):
 aX Tryz.prog (.func 79) [.agg ⟨qL s v1 v2 v3 v4 vl vo vf day⟩] [] [] [ae dS vf fs] (λv:Value=>v) (λ_=>[]) (λv=>[ae ah v (ints (aS s fs day))]) (λ_=>True):=by
 refine aT _ (bz 79) λB w0=>?_;refine go ?_;intro b1;refine bP (fQ (b:=b1)) (h:=?_);refine go ?_;refine tq ah ?_;refine bR (λy:Nat×Value=>s.p.toNat - y.1) (λy=>[(7,.int .i64 (y.1:Int)),(2,y.2)]) (λy=>[ap ah y.2 (ints (jq fs day y.1))]) (λ_=>[]) (λy=>(y.1:Int)<=s.p) (0,.slice none 0 0) hp0 (hk:=by repeat (first|exact aI.nil|(apply aI.cons;(focus (repeat (first|exact ai.here|apply ai.there)))))) (body:=?_);rintro⟨p,v2'⟩ hp;dsimp only at hp⊢;have hdl:=VU fs day p;have hil:=om (jq fs day p);refine go ?_;refine aC rfl (λh1=>?_) (λh1=>?_)
 ·refine go ?_;intro b3;refine bP (fQ (b:=b3)) (h:=?_);refine go ?_;refine aB (VM (fs:=fs) (p:=λf=>decide (f.p=p)&&(decide (f.k=3)&&decide (f.d<=day))) (by omega) (λf _=>aht (b1:=b3) (b2:=b1) (s:=s) (v1:=v1) (v2:=v2) (v3:=v3) (v4:=v4) (vl:=vl) (vo:=vo) (vf:=vf) (day:=day) (p:=p))) (next:=λb hb=>?_);refine go ?_;refine iW rfl (λh3=>?_) (λh3=>?_)
  ·refine go ?_;intro b16;refine go ?_;refine lY (xs:=ints (jq fs day p)) ah (p:Int) () (by omega) (next:=λad=>?_);rw[<- Dz,show jq fs day p++[p]=jq fs day (p+1)by rw[Jd,if_pos (show oq fs day p=true from hb.symm.trans h3)]];refine go ?_;exact aL (p+1,.slice ad ((ints (jq fs day p)).length+1) ((ints (jq fs day p)).length+1)) (by show s.p.toNat - (p+1)<s.p.toNat - p;omega) (by show((p+1:Nat):Int)<=_;omega)
  ·rw[show jq fs day p=jq fs day (p+1)by rw[Jd,if_neg (by rw[show oq fs day p=b from hb.symm,h3];simp)]];refine go ?_;exact aL (p+1,v2') (by show s.p.toNat - (p+1)<s.p.toNat - p;omega) (by show((p+1:Nat):Int)<=_;omega)
 have hpe:p=s.p.toNat:=by omega
 subst hpe;rw[show jq fs day s.p.toNat=aS s fs day from rfl];refine bP (rD (E:=ah) (v:=v2') (xs:=ints (aS s fs day))) (h:=?_);refine go ?_;exact aj v2' (hv:=rfl) (hp:=trivial)
theorem ahv{s:aK}{v1 v2 v3 v4 vl vo vf:Value}{day:Int}(hx1:cellsOf v1=some [v1])(hx2:cellsOf v2=some [v2])(hx3:cellsOf v3=some [v3])(hx4:cellsOf v4=some [v4])(hx5:cellsOf vl=some [vl])(hx6:cellsOf vo=some [vo])(hx7:cellsOf vf=some [vf]):
 aX Tryz.prog (.func 62) [.agg ⟨qL s v1 v2 v3 v4 vl vo vf day⟩] [] [] [] (λb:Nat=>.func (.func 78) #[] #[ptr' b]) (λ_=>[]) (λb=>[bW b 0 (qL s v1 v2 v3 v4 vl vo vf day)]) (λ_=>True):=by
 refine aT _ (bz 62) λB w0=>?_;refine go ?_;intro b1;refine bP (fQ (b:=b1)) (h:=?_);refine go ?_;exact aj b1 (hv:=rfl) (hp:=trivial)
def kV(l:List ak)(o:List Bool)(dq:List Nat)(n k:Nat):List ak:=rd (l.take k) (o.take k) dq n++l.drop k
theorem VW{l:List ak}{o:List Bool}{dq:List Nat}{n:Nat}:kV l o dq n 0=l:=by simp[kV,rd]
theorem VX{l:List ak}{o:List Bool}{dq:List Nat}{n:Nat}(h:o.length=l.length):kV l o dq n l.length=rd l o dq n:=by
 unfold kV;rw[gV,nO (by omega),uV (aG _),fU]
theorem Er{l:List ak}{o:List Bool}{dq:List Nat}{n k:Nat}(h:o.length=l.length)(hk:k<=l.length):(rd (l.take k) (o.take k) dq n).length=k:=by
 rw[Ih (by rw[cB,cB,h]),cB];omega
theorem NQ{l:List ak}{o:List Bool}{dq:List Nat}{n k:Nat}(h:o.length=l.length)(hk:k<=l.length):(kV l o dq n k).length=l.length:=by
 unfold kV;rw[dN,Er h hk,iZ];omega
theorem VY{l:List ak}{o:List Bool}{dq:List Nat}{n k:Nat}{x:ak}(h:o.length=l.length)(hx:l[k]? =some x):(kV l o dq n k)[k]? =some x:=by
 have hk:=(dU.1 hx).1;unfold kV;rw[lM (by rw[Er h (by omega)];omega),Er h (by omega),qc,jf,jG,hx]
theorem VZ{l:List ak}{o:List Bool}{dq:List Nat}{n k:Nat}{x:ak}{b:Bool}(h:o.length=l.length)(hx:l[k]? =some x)(hb:o[k]? =some b):(kV l o dq n k).set k (if jo dq n x.p then{x with r:=b}else x)=kV l o dq n (k+1):=by
 have hk:=(dU.1 hx).1;unfold kV;rw[EK _ _ (by rw[Er h (by omega)];omega),Er h (by omega),qc,eD hx,eD hb,zz hk];unfold rd;rw[List.zipWith_append (by rw[cB,cB,h]),ig];rfl
theorem NR{α:Type}{l:List α}{k:Nat}{x:α}(h:l[k]? =some x):l.set k x=l:=by
 apply kz;intro i;by_cases e:i=k
 ·subst e;rw[Jw (dU.1 h).1,h]
 ·rw[List.getElem?_set_ne (Ne.symm e)]
theorem ahw{dq:List Nat}{n:Nat}{p:Int}(h:p∉ints dq):jo dq n p=false:=by
 rw[Bool.eq_false_iff];intro k;obtain⟨q,hq,rfl⟩:=TQ k;exact h (wG hq)
theorem ahx{dq:List Nat}(hn:dq.Nodup){n k:Nat}{p:Int}(h:(ints dq)[k]? =some p):jo dq n p=n.testBit k:=by
 obtain⟨i,hi,rfl⟩:=vP h;obtain⟨hk,rfl⟩:=dU.1 hi;exact aee hn hk
abbrev oL:=List ak×Value
abbrev Je(x:oL):List Value:=[x.2]
abbrev Es(x:oL):List aD:=[ae aZ x.2 x.1]
def yc(xs:List (List ak)):List oL:=xs.map λx=>(x,.slice none 0 0)
theorem V3(xs:List (List ak)):(yc xs).map (·.1)=xs:=by unfold yc;rw[BM];exact EL _
theorem ahy{b:Nat}{s:aK}{v1 v2 v3 v4 vl vo vf:Value}{l:List ak}{o:List Bool}{fs:List aU}{day:Int}(oJ:s.p<=8)(hp0:0<=s.p)(hfl:fs.length<=16)(hll:l.length<=32)(hol:o.length=l.length)(hx1:cellsOf v1=some [v1])(hx2:cellsOf v2=some [v2])(hx3:cellsOf v3=some [v3])(hx4:cellsOf v4=some [v4])(hx5:cellsOf vl=some [vl])(hx6:cellsOf vo=some [vo])(hx7:cellsOf vf=some [vf]):
 LP Tryz.prog Je Es (.func 78) [] [ptr' b] [bW b 0 (qL s v1 v2 v3 v4 vl vo vf day),ae aZ vl l,ae kK vo o,ae dS vf fs] (λxs=>xs.map (·.1)=(List.range (2^(aS s fs day).length)).map (rd l o (aS s fs day))):=by
 intro S inv ok step s0 xy y1 y2 F' h0 hok hy;rw[fE,fE,fE,fE,dI];have hdl:=TM s fs day;have hdn:=aec s fs day;have hil:=om (aS s fs day);have ahz:2^(aS s fs day).length<=256:=Nat.pow_le_pow_right (n:=2) (by decide) (show(aS s fs day).length<=8 by omega);refine aT _ (bz 78) λB w0=>?_;refine go ?_;refine aB (ahu (s:=s) (v1:=v1) (v2:=v2) (v3:=v3) (v4:=v4) (vl:=vl) (vo:=vo) (vf:=vf) (fs:=fs) (day:=day) oJ hp0 hfl hx1 hx2 hx3 hx4 hx5 hx6 hx7) (next:=λvd _=>?_);refine go ?_;refine(bC rfl rfl (Lt (a:=1) (b:=(ints (aS s fs day)).length) rfl rfl (by omega) (by rw[EQ,hil];omega))).h ?_;rw[EQ,hil];refine go ?_;refine bR (λy:Nat×List oL×S=>2^(aS s fs day).length - y.1) (λy=>[(13,.int .i64 (y.1:Int))]) (λy=>inv y.2.2) (λ_=>[]) (λy=>y.1<=2^(aS s fs day).length/\ok y.2.1 y.2.2/\y.2.1.map (·.1)=(List.range y.1).map (rd l o (aS s fs day))/\∀rest,gz step s0 (y.2.1++rest)=gz step y.2.2 rest) (0,[],s0) ⟨cu _,h0,rfl,λ_=>rfl⟩ (body:=?_);rintro⟨n,dx,st⟩ ⟨hn,hos,Bw,hrun⟩;dsimp only at hn hos Bw hrun⊢;refine go ?_;refine aC rfl (λh1=>?_) (λh1=>?_)
 ·refine go ?_;refine aB (VP (v:=vl) (l:=l) hll) (next:=λy hy0=>?_);obtain⟨hy1,hy2⟩:=hy0;cases y with
  |none=>
   have hl0:=hy1 rfl;have hrd:rd l o (aS s fs day) n=[]:=by rw[hl0];rfl
   dsimp only[Em,Eo,List.nil_append];refine go ?_;refine bR (λ_:Unit=>0) (λ_=>[]) (λ_=>[]) (λ_=>[]) (λ_=>True) () trivial (body:=?_);intro _ _;refine go ?_;refine bJ (ae aZ (.slice none 0 0) (rd l o (aS s fs day) n)) (λw _=>by rw[hrd];exact x9 w) ?_;have hnx:(List.range (n+1)).map (rd l o (aS s fs day))=(List.range n).map (rd l o (aS s fs day))++[rd l o (aS s fs day) n]:=by rw[List.range_succ,eB];rfl
   have hX:(dx++(rd l o (aS s fs day) n,.slice none 0 0)::yc ((List.range' (n+1) (2^(aS s fs day).length - (n+1))).map (rd l o (aS s fs day)))).map (·.1)=(List.range (2^(aS s fs day).length)).map (rd l o (aS s fs day)):=by
    rw[eB,lK,V3,Bw,Jp,Jp,show 2^(aS s fs day).length=n+(1+(2^(aS s fs day).length - (n+1)))by omega,<- OP,eB,<- OP,eB,bG];rw[show n+(1+(2^(aS s fs day).length - (n+1))) - (n+1)=2^(aS s fs day).length - (n+1)by omega];rfl
   generalize hxd:((rd l o (aS s fs day) n,.slice none 0 0):oL)=x at hX;have qD:=hy _ st _ _ hos hX;rw[show Je x=[.slice none 0 0]by rw[<- hxd],show Es x=[ae aZ (.slice none 0 0) (rd l o (aS s fs day) n)]by rw[<- hxd]]at qD;rw[fE,dI]at qD;refine go ?_;refine aB qD (next:=λ_ _=>?_);cases hst:(step st x).2 with
   |true=>
    have hs1:step st x=((step st x).1,true):=Prod.ext rfl hst;refine go ?_;refine aL (n+1,dx++[x],(step st x).1) (by show 2^(aS s fs day).length - (n+1)<2^(aS s fs day).length - n;omega) ⟨by show n+1<=_;omega,hok _ st _ _ hos hX hst,?_,λrest=>?_⟩
    ·show(dx++[x]).map (·.1)=_;rw[eB,OO,Bw,hnx,<- hxd]
    ·show gz step s0 (dx++[x]++rest)=_;rw[ig,hrun];show gz step st (x::rest)=_;rw[gz,hs1]
   |false=>
    have hs1:step st x=((step st x).1,false):=Prod.ext rfl hst;have hr:=hrun (x::yc ((List.range' (n+1) (2^(aS s fs day).length - (n+1))).map (rd l o (aS s fs day))));rw[gz,hs1]at hr;dsimp only at hr;refine go ?_;exact aj (dx++x::yc ((List.range' (n+1) (2^(aS s fs day).length - (n+1))).map (rd l o (aS s fs day)))) (hv:=rfl) (hp:=hX) (hk:=by rw[hr];first|exact aI.all _|exact aI.self _ _)
  |some bf=>
   obtain⟨bs,f⟩:=bf;have hf:=hy2 bs f rfl;dsimp only[Em,Eo,List.cons_append,List.nil_append];refine go ?_;refine bR (λk=>l.length - k) (λk:Nat=>[(21,.int .i64 (k:Int))]) (λk=>[pt bs (.cells (dM (kV l o (aS s fs day) n k)))]) (λ_=>[]) (λk=>k<=l.length) 0 (cu _) (hk:=by
    rw[VW];apply aI.cons
    ·exact ai.here
    ·exact aI.nil) (body:=?_)
   intro k hk;refine go ?_;refine aC rfl (λh5=>?_) (λh5=>?_)
   ·have hx:l[k]? =some (l[k]'(by omega)):=bB _;generalize l[k]'(by omega)=x at hx;have hb:o[k]? =some (o[k]'(by omega)):=bB _;generalize o[k]'(by omega)=bv at hb;have mq:=VY (dq:=aS s fs day) (n:=n) hol hx;have NS:=Bu (kV l o (aS s fs day) n k);rw[NQ hol hk]at NS;have hset:=VZ (dq:=aS s fs day) (n:=n) hol hx hb;refine go ?_;refine gp (o:=0+k*6+1) (cs:=dM (kV l o (aS s fs day) n k)) (.int .i64 x.p) (by rw[bG];exact pX mq rfl) ?_;refine go ?_;refine aB (ahs (xs:=ints (aS s fs day)) (x:=x.p) (by omega)) (next:=λr hr=>?_);rcases hr with⟨rfl,hno⟩|⟨j,rfl,hj⟩
    ·rw[ahw hno,if_neg (by simp),NR mq]at hset;rw[hset];refine go ?_;exact aL (k+1) (by omega) (by omega)
    ·have hjl:=(dU.1 hj).1;rw[ahx hdn hj]at hset;refine go ?_;refine(bC rfl rfl (AC (a:=n) (b:=j) rfl rfl (by omega))).h ?_;refine(bC rfl rfl (AJ (b:=1) rfl rfl (zy (ER _ _) (by omega)) (by omega))).h ?_;refine go ?_;rw[DK];refine iW rfl (λhbt=>?_) (λhbt=>?_)
     ·rw[hbt,if_pos rfl]at hset;refine go ?_;intro _ _ b' hb';cases hb.symm.trans hb';refine go ?_;refine jk (o:=0+k*6+5) (cs:=dM (kV l o (aS s fs day) n k)) (cs':=dM (kV l o (aS s fs day) n (k+1))) (v:=.bool bv) (by rw[bG,Ja mq,hset]) (by omega) ?_;refine go ?_;exact aL (k+1) (by omega) (by omega)
     ·rw[hbt,if_neg (by simp),NR mq]at hset;rw[hset];refine go ?_;exact aL (k+1) (by omega) (by omega)
   have hkl:k=l.length:=by omega
   subst hkl;rw[VX hol];refine I8 (l:=rd l o (aS s fs day) n) (b:=bs) (f:=f) hf (hk:=.here) (h:=?_);rw[Ih hol];have hnx:(List.range (n+1)).map (rd l o (aS s fs day))=(List.range n).map (rd l o (aS s fs day))++[rd l o (aS s fs day) n]:=by rw[List.range_succ,eB];rfl
   have hX:(dx++(rd l o (aS s fs day) n,.slice (some ⟨bs,0,some f⟩) l.length l.length)::yc ((List.range' (n+1) (2^(aS s fs day).length - (n+1))).map (rd l o (aS s fs day)))).map (·.1)=(List.range (2^(aS s fs day).length)).map (rd l o (aS s fs day)):=by
    rw[eB,lK,V3,Bw,Jp,Jp,show 2^(aS s fs day).length=n+(1+(2^(aS s fs day).length - (n+1)))by omega,<- OP,eB,<- OP,eB,bG];rw[show n+(1+(2^(aS s fs day).length - (n+1))) - (n+1)=2^(aS s fs day).length - (n+1)by omega];rfl
   generalize hxd:((rd l o (aS s fs day) n,.slice (some ⟨bs,0,some f⟩) l.length l.length):oL)=x at hX;have qD:=hy _ st _ _ hos hX;rw[show Je x=[.slice (some ⟨bs,0,some f⟩) l.length l.length]by rw[<- hxd],show Es x=[ae aZ (.slice (some ⟨bs,0,some f⟩) l.length l.length) (rd l o (aS s fs day) n)]by rw[<- hxd]]at qD;rw[fE,dI]at qD;refine go ?_;refine aB qD (next:=λ_ _=>?_);cases hst:(step st x).2 with
   |true=>
    have hs1:step st x=((step st x).1,true):=Prod.ext rfl hst;refine go ?_;refine aL (n+1,dx++[x],(step st x).1) (by show 2^(aS s fs day).length - (n+1)<2^(aS s fs day).length - n;omega) ⟨by show n+1<=_;omega,hok _ st _ _ hos hX hst,?_,λrest=>?_⟩
    ·show(dx++[x]).map (·.1)=_;rw[eB,OO,Bw,hnx,<- hxd]
    ·show gz step s0 (dx++[x]++rest)=_;rw[ig,hrun];show gz step st (x::rest)=_;rw[gz,hs1]
   |false=>
    have hs1:step st x=((step st x).1,false):=Prod.ext rfl hst;have hr:=hrun (x::yc ((List.range' (n+1) (2^(aS s fs day).length - (n+1))).map (rd l o (aS s fs day))));rw[gz,hs1]at hr;dsimp only at hr;refine go ?_;exact aj (dx++x::yc ((List.range' (n+1) (2^(aS s fs day).length - (n+1))).map (rd l o (aS s fs day)))) (hv:=rfl) (hp:=hX) (hk:=by rw[hr];first|exact aI.all _|exact aI.self _ _)
 have hne:n=2^(aS s fs day).length:=by omega
 subst hne;have hr:=hrun [];rw[fU]at hr;refine go ?_;exact aj dx (hv:=rfl) (hp:=Bw) (hk:=by rw[hr];exact aI.all _)
