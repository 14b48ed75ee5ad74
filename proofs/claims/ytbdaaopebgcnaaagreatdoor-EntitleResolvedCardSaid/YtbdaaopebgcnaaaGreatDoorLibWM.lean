/-
  entitle.Claims, entitle.Total.
-/
import Derived.Test.YtbdaaopebgcnaaaGreatDoorLibVM
import Derived.Test.YtbdaaopebgcnaaaGreatDoorLibQM
set_option linter.all false
set_option maxRecDepth 10000
set_option maxHeartbeats 4000000
namespace Go.Proofs.YtbdaaopebgcnaaaGreatDoor
open Go.Ideal Rk En
structure zJ where
 c:Int
 k:Int
 lo:Int
 hi:Int
def oL:Enc zJ:=⟨4,Unit,λx _=>[.int .i64 x.c,.int .i64 x.k,.int .i64 x.lo,.int .i64 x.hi],λ_ _=>[],λ_ _=>rfl⟩
def SQ(X:List (List Int))(c:Nat)(x:zJ):Prop:=x.c=(c:Int)/\x.k=FC (x.lo,x.hi)/\l6 (Ka X c) (x.lo,x.hi)
structure Lb where
 v:Value
 e:Int
 L:List zJ
abbrev ae4(y:Lb):Value:=.tuple ⟨[y.v,.int .i64 y.e]⟩
abbrev ae5(y:Lb):List aB:=[ae oL y.v y.L]
def ae6(s:aJ)(l:List aA)(o:List Bool)(fs:List aR)(day:Int)(y:Lb):Prop:=y.e=jL s l o fs day/\(y.e=0->y.L.length=s.c.toNat/\∀(c:Nat) x,y.L[c]? =some x->SQ (outs s l o fs day) c x)
theorem ae7{A B:List Int}{r:Int×Int}(h:∀x,x∈A↔x∈B)(hr:l6 A r):l6 B r:=⟨⟨(h _).1 hr.1.1,λx hx=>hr.1.2 x ((h x).2 hx)⟩,⟨(h _).1 hr.2.1,λx hx=>hr.2.2 x ((h x).2 hx)⟩⟩
theorem ae8{A:List Int}{lo hi n:Int}(h:l6 A (lo,hi)):l6 (A++[n]) (min lo n,max hi n):=by
 obtain⟨⟨h1,h2⟩,h3,h4⟩:=h;dsimp only at h1 h2 h3 h4;refine⟨⟨?_,λx hx=>?_⟩,?_,λx hx=>?_⟩
 ·show min lo n∈_;rcases Int.min_def lo n▸(show(if lo<=n then lo else n)=lo\/(if lo<=n then lo else n)=n by split<;>simp)with e|e<;>rw[e]<;>simp[h1]
 ·show min lo n<=x;rcases fI.1 hx with hx|hx
  ·have:=h2 x hx;omega
  ·rw[cB.1 hx];omega
 ·show max hi n∈_;rcases Int.max_def hi n▸(show(if hi<=n then n else hi)=n\/(if hi<=n then n else hi)=hi by split<;>simp)with e|e<;>rw[e]<;>simp[h3]
 ·show x<=max hi n;rcases fI.1 hx with hx|hx
  ·have:=h4 x hx;omega
  ·rw[cB.1 hx];omega
theorem ae9(n:Int):l6 [n] (n,n):=⟨⟨by simp,λx hx=>by rw[cB.1 hx];exact Int.le_refl _⟩,by simp,λx hx=>by rw[cB.1 hx];exact Int.le_refl _⟩
def uz(A:List Int)(lo hi:Int)(sm:Bool):Prop:=(sm=false->A=[])/\(sm=true->l6 A (lo,hi))
theorem uz.snoc{A:List Int}{lo hi n:Int}{sm:Bool}(h:uz A lo hi sm):uz (A++[n]) (cond sm (min lo n) n) (cond sm (max hi n) n) true:=by
 refine⟨(λe=>by cases e),λ_=>?_⟩;cases sm with
 |false=>rw[h.1 rfl];exact ae9 n
 |true=>exact ae8 (h.2 rfl)
theorem uz.get{A B:List Int}{lo hi:Int}{sm:Bool}(h:uz A lo hi sm)(hB:B≠[])(hm:∀x,x∈A↔x∈B):l6 B (lo,hi):=by
 cases sm with
 |true=>exact ae7 hm (h.2 rfl)
 |false=>
  exfalso
  obtain⟨x,hx⟩:=List.exists_mem_of_ne_nil _ hB;have:=(hm x).2 hx;rw[h.1 rfl]at this;cases this
theorem SS{s:aJ}{l:List aA}{o:List Bool}{fs:List aR}{day:Int}{ks:List (Vec s.c.toNat)}{bY:List (Vec s.c.toNat×Value)}(hall:∀u:Vec s.c.toNat,u∈ks↔u.1∈outs s l o fs day)(hp:bY.Perm (dH ks))(f:List Int->Int)(x:Int):x∈bY.map (λq=>f q.1.1)↔x∈(outs s l o fs day).map f:=by
 rw[gz,gz];constructor
 ·rintro⟨q,hq,rfl⟩;have:=hp.mem_iff.1 hq;obtain⟨z,hz,e⟩:=gz.1 this;exact⟨q.1.1,(hall q.1).1 (by rw[<- e];exact hz),rfl⟩
 ·rintro⟨u,hu,rfl⟩;have Lc:u.length=s.c.toNat:=QM hu;have:((⟨u,Lc⟩:Vec s.c.toNat),Value.bool true)∈dH ks:=gz.2 ⟨⟨u,Lc⟩,(hall ⟨u,Lc⟩).2 hu,rfl⟩;exact⟨_,hp.mem_iff.2 this,rfl⟩
theorem afa{c:Nat}{t:Vec c}{k:Nat}(hk:k<c):(iy c t)[k]? =some (t.1.getD k 0):=by
 unfold iy;rw[iW (by rw[t.2];exact hk),oh,bH (by rw[t.2];exact hk)];rfl
theorem SV{s:aJ}{v1 v2 v3 v4 vl vo vf:Value}{l:List aA}{o:List Bool}{fs:List aR}{day:Int}(h4:s.c<=4)(hb1:s.lv.length<9223372036854775808)(hb2:s.cl.length<9223372036854775808)(hb3:s.pz.length<9223372036854775808)(hbf:fs.length<9223372036854775808)(hx1:cellsOf v1=some [v1])(hx2:cellsOf v2=some [v2])(hx3:cellsOf v3=some [v3])(hx4:cellsOf v4=some [v4])(hx5:cellsOf vl=some [vl])(hx6:cellsOf vo=some [vo])(hx7:cellsOf vf=some [vf]):
 aT Tryz.prog (.func 13) [.agg ⟨kY s v1 v2 v3 v4⟩,vl,vo,vf,.int .i64 day] [] [] [mX 0 nQ,ae az v1 s.lv,ae az v2 s.cl,ae iw v3 s.pg,ae az v4 s.pz,ae bR vl l,ae mO vo o,ae eF vf fs] ae4 (λ_=>[]) ae5 (ae6 s l o fs day):=by
 refine aV _ (bB 13) λB w0=>?_;refine eU (E:=bR) (v:=vl) (xs:=l) (by simp) λal cl el=>?_;subst el;refine eU (E:=mO) (v:=vo) (xs:=o) (by simp) λao co eo=>?_;subst eo;refine eU (E:=eF) (v:=vf) (xs:=fs) (by simp) λaf cf ef=>?_;subst ef;refine go ?_;intro b5;refine cu (fT (b:=b5)) (h:=?_);refine go ?_;refine aG (SL (s:=s) (v1:=v1) (v2:=v2) (v3:=v3) (v4:=v4) (l:=l) (o:=o) (fs:=fs) (day:=day) h4 hb1 hb2 hb3 hbf hx1 hx2 hx3 hx4 hx5 hx6 hx7) (next:=λy hy=>?_);obtain⟨m,e,ks⟩:=y;obtain⟨rfl,hy⟩:=hy;dsimp only at hy⊢;cases m with
 |none=>
  have hne:jL s l o fs day≠0:=λh=>by obtain⟨⟨b,hb⟩,_⟩:=hy h;cases hb
  dsimp only[Cv,List.nil_append];refine go ?_;refine aM rfl (λh1=>?_) (λh1=>absurd hne h1);refine go ?_;refine bX (ae oL (.slice none 0 0) ([]:List zJ)) (λw _=>wm w) ?_;exact aj ⟨.slice none 0 0,jL s l o fs day,[]⟩ (hv:=rfl) (hp:=⟨rfl,λh=>absurd h hne⟩)
 |some bm=>
  dsimp only[Cv,List.cons_append,List.nil_append];refine go ?_;refine aM rfl (λh1=>?_) (λh1=>?_)
  ·refine go ?_;refine bX (ae oL (.slice none 0 0) ([]:List zJ)) (λw _=>wm w) ?_;exact aj ⟨.slice none 0 0,jL s l o fs day,[]⟩ (hv:=rfl) (hp:=⟨rfl,λh=>absurd h h1⟩)
  have h1:jL s l o fs day=0:=rJ.1 h1;obtain⟨_,hall⟩:=hy h1;have hr0:eD s l fs day=0:=by
   apply Classical.byContradiction;intro hk;rw[J6 hk]at h1;exact hk h1
  have hol:o.length=l.length:=by
   apply Classical.byContradiction;intro hk;rw[J7 hr0 hk]at h1;cases h1
  have hne:=QL hr0 hol;have hck:=pY (xB hr0).ck;have hc1:=hck.sh.c1;have hc8:s.c.toNat<=8:=by omega
  refine go ?_;refine wW oL ?_;refine dQ (λy:Nat×Value×List zJ=>s.c.toNat - y.1) (λy=>[(32,.int .i64 (y.1:Int)),(10,y.2.1)]) (λy=>[ap oL y.2.1 y.2.2]) (λ_=>[]) (λy=>y.1<=s.c.toNat/\y.2.2.length=y.1/\∀(c:Nat) x,y.2.2[c]? =some x->SQ (outs s l o fs day) c x) (0,.slice none 0 0,[]) ⟨dY _,rfl,λc x hx=>by simp at hx⟩ (hk:=by repeat (first|exact aL.nil|(apply aL.cons;(focus (repeat (first|exact ah.here|apply ah.there)))))) (body:=?_);rintro⟨c,v10,X⟩ ⟨hc,qa,xM⟩;dsimp only at hc qa xM⊢;refine go ?_;refine aM rfl (λh2=>?_) (λh2=>?_)
  ·refine go ?_;intro b14;refine go ?_;refine EE (b:=bm) (aF:=dH ks) (aN:=dm s.c.toNat) (next:=λr=>?_);refine go ?_;refine dQ (λy:List (Vec s.c.toNat×Value)×Int×Int×Bool=>(dH ks).length - y.1.length) (λy=>[]) (λy=>[tQ (dm s.c.toNat) r bm (dH ks) y.1,pt b14 (.cells [.int .i64 y.2.1,.int .i64 y.2.2.1,.bool y.2.2.2])]) (λ_=>[]) (λy=>uz (y.1.map λq=>q.1.1.getD c 0) y.2.1 y.2.2.1 y.2.2.2) ([],0,0,false) ⟨λ_=>rfl,λe=>by cases e⟩ (hk:=by repeat (first|exact aL.nil|(apply aL.cons;(focus (repeat (first|exact ah.here|apply ah.there)))))) (body:=?_);rintro⟨bY,lo,hi,sm⟩ hsp;dsimp only at hsp⊢;refine go ?_;refine EF (b:=bm) (aF:=dH ks) (bY:=bY) (aN:=dm s.c.toNat) (more:=λq rem hq=>?_) (done:=λhq=>?_) FY
   ·have hlen:=hq.length_eq;rw[dK,nZ]at hlen;obtain⟨x0,x1,x2,x3,x4,x5,x6,x7,sH⟩:=len8 (mg hc8 q.1);have uw:dm s.c.toNat q.1=.agg ⟨[.int .i64 x0,.int .i64 x1,.int .i64 x2,.int .i64 x3,.int .i64 x4,.int .i64 x5,.int .i64 x6,.int .i64 x7]⟩:=by unfold dm;rw[sH];rfl
    have hget:=afa (t:=q.1) (k:=c) (by omega);rw[sH]at hget;refine go ?_;refine EG (aN:=dm s.c.toNat) (aF:=dH ks) (bY:=bY) (p:=q) ?_;rw[uw];refine go ?_;intro b15;refine go ?_;refine mV (o:=0+c*1) (cs:=[x0,x1,x2,x3,x4,x5,x6,x7].map (Value.int .i64)) (.int .i64 (q.1.1.getD c 0)) (by rw[dB,jB,cK,hget];rfl) ?_ (hk:=.here);refine go ?_;refine aG (SC (b:=b14) (lo:=lo) (hi:=hi) (n:=q.1.1.getD c 0) (sm:=sm)) (next:=λ_ _=>?_);have hsn:=hsp.snoc (n:=q.1.1.getD c 0);refine go ?_;refine aY (bY++[q],cond sm (min lo (q.1.1.getD c 0)) (q.1.1.getD c 0),cond sm (max hi (q.1.1.getD c 0)) (q.1.1.getD c 0),true) (by show(dH ks).length - (bY++[q]).length<(dH ks).length - bY.length;rw[dK,qj];omega) (by show uz ((bY++[q]).map _) _ _ _;rw[dM];exact hsn)
   ·have hR:l6 (Ka (outs s l o fs day) c) (lo,hi):=hsp.get (by unfold Ka;exact λe=>hne (List.map_eq_nil_iff.1 e)) (λx=>SS hall hq (λu=>u.getD c 0) x);refine go ?_;refine aM rfl (λh3=>?_) (λh3=>?_)
    ·refine go ?_;intro SX;refine go ?_;refine qN (xs:=X) oL ⟨(c:Int),1,lo,hi⟩ () (by omega) (next:=λad=>?_);refine go ?_;refine aY (c+1,.slice ad (X.length+1) (X.length+1),X++[⟨(c:Int),1,lo,hi⟩]) (by show s.c.toNat - (c+1)<s.c.toNat - c;omega) ⟨by show c+1<=_;omega,by rw[dK,qa];rfl,λi x hx=>?_⟩;by_cases hi2:i<X.length
     ·rw[iW hi2]at hx;exact xM i x hx
     ·have hil:=(dU.1 hx).1;rw[dK,qj]at hil;have hie:i=c:=by omega
      subst hie;rw[lN (by omega),qa,uE]at hx;cases hx;exact⟨rfl,by unfold FC;rw[if_pos h3],hR⟩
    refine go ?_;refine aM rfl (λh5=>?_) (λh5=>?_)
    ·refine go ?_;intro SX;refine go ?_;refine qN (xs:=X) oL ⟨(c:Int),3,lo,hi⟩ () (by omega) (next:=λad=>?_);refine go ?_;refine aY (c+1,.slice ad (X.length+1) (X.length+1),X++[⟨(c:Int),3,lo,hi⟩]) (by show s.c.toNat - (c+1)<s.c.toNat - c;omega) ⟨by show c+1<=_;omega,by rw[dK,qa];rfl,λi x hx=>?_⟩;by_cases hi2:i<X.length
     ·rw[iW hi2]at hx;exact xM i x hx
     ·have hil:=(dU.1 hx).1;rw[dK,qj]at hil;have hie:i=c:=by omega
      subst hie;rw[lN (by omega),qa,uE]at hx;cases hx;exact⟨rfl,by unfold FC;rw[if_neg h3,if_pos h5],hR⟩
    ·refine go ?_;intro SX;refine go ?_;refine qN (xs:=X) oL ⟨(c:Int),2,lo,hi⟩ () (by omega) (next:=λad=>?_);refine go ?_;refine aY (c+1,.slice ad (X.length+1) (X.length+1),X++[⟨(c:Int),2,lo,hi⟩]) (by show s.c.toNat - (c+1)<s.c.toNat - c;omega) ⟨by show c+1<=_;omega,by rw[dK,qa];rfl,λi x hx=>?_⟩;by_cases hi2:i<X.length
     ·rw[iW hi2]at hx;exact xM i x hx
     ·have hil:=(dU.1 hx).1;rw[dK,qj]at hil;have hie:i=c:=by omega
      subst hie;rw[lN (by omega),qa,uE]at hx;cases hx;exact⟨rfl,by unfold FC;rw[if_neg h3,if_neg h5],hR⟩
  have hce:c=s.c.toNat:=by omega
  refine cu (wV (E:=oL) (v:=v10) (xs:=X)) (h:=?_);refine go ?_;exact aj ⟨v10,0,X⟩ (hv:=rfl) (hp:=⟨h1.symm,λ_=>⟨by dsimp only;omega,xM⟩⟩)
theorem afb{P:Program}{ρ:Operand->Value}{x i:Operand}{n k:Nat}{cs:List Value}{v:Value}(hx:ρ x=.agg ⟨cs⟩)(hi:ρ i=.int .i64 (k:Int))(hk:k<n)(hv:cs[k]? =some v):Pu P ρ (.Gq n 1 false x i) v:=λh=>by
 simp only[ai.run,hx,hi];show cond (Nat.blt k n) (match gH cs (Nat.mul k 1)with|some v=>some (v,h)|none=>none) none=_;rw[Dy hk,show Nat.mul k 1=k from jB k,mH,hv];rfl
structure SY where
 e:Int
 lo:Int
 hi:Int
abbrev afc(y:SY):Value:=.tuple ⟨[.agg ⟨[.int .i64 y.lo,.int .i64 y.hi]⟩,.int .i64 y.e]⟩
def afd(s:aJ)(l:List aA)(o:List Bool)(fs:List aR)(day:Int)(y:SY):Prop:=y.e=jL s l o fs day/\(y.e=0->l6 ((outs s l o fs day).map gy) (y.lo,y.hi))
theorem afe(n:Nat):gy (List.replicate n 0)=0:=by
 induction n with
 |zero=>rfl
 |succ n ih=>rw[Gh,xz,ih];rfl
theorem aff{s:aJ}{l:List aA}{o:List Bool}{fs:List aR}{day:Int}(hr:eD s l fs day=0)(hol:o.length=l.length){u:List Int}(hu:u∈outs s l o fs day):u.length=s.c.toNat/\∀x∈u,0<=x/\x<=8388608:=by
 refine⟨QM hu,λx hx=>?_⟩;obtain⟨m,_,t,ht,rfl⟩:=xD.1 hu;have hp:=SK (pY (J9 hr hol m)) ht;obtain⟨r,hr2,rfl⟩:=gz.1 hx;exact aeh hp hr2
theorem S9{s:aJ}{v1 v2 v3 v4 vl vo vf:Value}{l:List aA}{o:List Bool}{fs:List aR}{day:Int}(h4:s.c<=4)(hb1:s.lv.length<9223372036854775808)(hb2:s.cl.length<9223372036854775808)(hb3:s.pz.length<9223372036854775808)(hbf:fs.length<9223372036854775808)(hx1:cellsOf v1=some [v1])(hx2:cellsOf v2=some [v2])(hx3:cellsOf v3=some [v3])(hx4:cellsOf v4=some [v4])(hx5:cellsOf vl=some [vl])(hx6:cellsOf vo=some [vo])(hx7:cellsOf vf=some [vf]):
 aT Tryz.prog (.func 14) [.agg ⟨kY s v1 v2 v3 v4⟩,vl,vo,vf,.int .i64 day] [] [] [mX 0 nQ,ae az v1 s.lv,ae az v2 s.cl,ae iw v3 s.pg,ae az v4 s.pz,ae bR vl l,ae mO vo o,ae eF vf fs] afc (λ_=>[]) (λ_=>[]) (afd s l o fs day):=by
 refine aV _ (bB 14) λB w0=>?_;refine eU (E:=bR) (v:=vl) (xs:=l) (by simp) λal cl el=>?_;subst el;refine eU (E:=mO) (v:=vo) (xs:=o) (by simp) λao co eo=>?_;subst eo;refine eU (E:=eF) (v:=vf) (xs:=fs) (by simp) λaf cf ef=>?_;subst ef;refine go ?_;intro b5 b10;refine cu (fT (b:=b5)) (h:=?_);refine go ?_;refine aG (SL (s:=s) (v1:=v1) (v2:=v2) (v3:=v3) (v4:=v4) (l:=l) (o:=o) (fs:=fs) (day:=day) h4 hb1 hb2 hb3 hbf hx1 hx2 hx3 hx4 hx5 hx6 hx7) (next:=λy hy=>?_);obtain⟨m,e,ks⟩:=y;obtain⟨rfl,hy⟩:=hy;dsimp only at hy⊢;cases m with
 |none=>
  have hne:jL s l o fs day≠0:=λh=>by obtain⟨⟨b,hb⟩,_⟩:=hy h;cases hb
  dsimp only[Cv,List.nil_append];refine go ?_;refine aM rfl (λh1=>?_) (λh1=>absurd hne h1);refine go ?_;exact aj ⟨jL s l o fs day,0,0⟩ (hv:=rfl) (hp:=⟨rfl,λh=>absurd h hne⟩)
 |some bm=>
  dsimp only[Cv,List.cons_append,List.nil_append];refine go ?_;refine aM rfl (λh1=>?_) (λh1=>?_)
  ·refine go ?_;exact aj ⟨jL s l o fs day,0,0⟩ (hv:=rfl) (hp:=⟨rfl,λh=>absurd h h1⟩)
  have h1:jL s l o fs day=0:=rJ.1 h1;obtain⟨_,hall⟩:=hy h1;have hr0:eD s l fs day=0:=by
   apply Classical.byContradiction;intro hk;rw[J6 hk]at h1;exact hk h1
  have hol:o.length=l.length:=by
   apply Classical.byContradiction;intro hk;rw[J7 hr0 hk]at h1;cases h1
  have hne:=QL hr0 hol;have hck:=pY (xB hr0).ck;have hc1:=hck.sh.c1;have hc8:s.c.toNat<=8:=by omega
  refine go ?_;intro b13;refine go ?_;refine EE (b:=bm) (aF:=dH ks) (aN:=dm s.c.toNat) (next:=λr=>?_);refine go ?_;refine dQ (λy:List (Vec s.c.toNat×Value)×Int×Int×Bool=>(dH ks).length - y.1.length) (λy=>[]) (λy=>[tQ (dm s.c.toNat) r bm (dH ks) y.1,pt b13 (.cells [.int .i64 y.2.1,.int .i64 y.2.2.1,.bool y.2.2.2])]) (λ_=>[]) (λy=>uz (y.1.map λq=>gy q.1.1) y.2.1 y.2.2.1 y.2.2.2) ([],0,0,false) ⟨λ_=>rfl,λe=>by cases e⟩ (hk:=by repeat (first|exact aL.nil|(apply aL.cons;(focus (repeat (first|exact ah.here|apply ah.there)))))) (body:=?_);rintro⟨bY,lo,hi,sm⟩ hsp;dsimp only at hsp⊢;refine go ?_;refine EF (b:=bm) (aF:=dH ks) (bY:=bY) (aN:=dm s.c.toNat) (more:=λq rem hq=>?_) (done:=λhq=>?_) FY
  ·have hlen:=hq.length_eq;rw[dK,nZ]at hlen;have hqk:q.1∈ks:=by
    have:q∈dH ks:=hq.mem_iff.1 (by simp);obtain⟨z,hz,e⟩:=gz.1 this;rw[<- e];exact hz
   obtain⟨_,hqr⟩:=aff hr0 hol ((hall q.1).1 hqk);obtain⟨x0,x1,x2,x3,x4,x5,x6,x7,sH⟩:=len8 (mg hc8 q.1);have uw:dm s.c.toNat q.1=.agg ⟨[.int .i64 x0,.int .i64 x1,.int .i64 x2,.int .i64 x3,.int .i64 x4,.int .i64 x5,.int .i64 x6,.int .i64 x7]⟩:=by unfold dm;rw[sH];rfl
   have hrx:∀x∈[x0,x1,x2,x3,x4,x5,x6,x7],0<=x/\x<=8388608:=λx hx=>by
    rw[<- sH]at hx;rcases fI.1 hx with hx|hx
    ·exact hqr x hx
    ·rw[Tw hx];omega
   have hsum:gy [x0,x1,x2,x3,x4,x5,x6,x7]=gy q.1.1:=by
    rw[<- sH];unfold iy;rw[Fj,afe];omega
   generalize hxs:[x0,x1,x2,x3,x4,x5,x6,x7]=xs at hrx hsum;have afh:xs.length=8:=by rw[<- hxs];rfl
   refine go ?_;refine EG (aN:=dm s.c.toNat) (aF:=dH ks) (bY:=bY) (p:=q) ?_;rw[uw];refine go ?_;intro b14;refine go ?_;refine dQ (λk=>8 - k) (λk:Nat=>[(39,.int .i64 (k:Int)),(15,.int .i64 (gy (xs.take k)))]) (λ_=>[]) (λ_=>[]) (λk=>k<=8) 0 (dY _) (body:=?_);intro k hk;have hs0:0<=gy (xs.take k):=JL λx hx=>(hrx x (xO hx)).1;have hs1:=JM (c:=8388608) (l:=xs.take k) (λx hx=>(hrx x (xO hx)).2);rw[fB,afh,Nat.min_eq_left hk]at hs1;refine go ?_;refine aM rfl (λh5=>?_) (λh5=>?_)
   ·have hx:xs[k]? =some (xs[k]'(by omega)):=bH _;generalize xs[k]'(by omega)=x at hx;have sI:=hrx x (dA hx);refine go ?_;refine(bV rfl rfl (afb (n:=8) (k:=k) (cs:=xs.map (.int .i64)) (v:=.int .i64 x) (by rw[<- hxs];rfl) rfl (by omega) (by rw[cK,hx];rfl))).h ?_;refine go ?_;rw[show gy (xs.take k)+x=gy (xs.take (k+1))by rw[fG hx,Fj,xz,BL];omega];exact aY (k+1) (by omega) (by omega)
   have hke:k=8:=by omega
   subst hke;rw[rH (by omega),hsum];refine go ?_;refine aG (SC (b:=b13) (lo:=lo) (hi:=hi) (n:=gy q.1.1) (sm:=sm)) (next:=λ_ _=>?_);have hsn:=hsp.snoc (n:=gy q.1.1);refine go ?_;refine aY (bY++[q],cond sm (min lo (gy q.1.1)) (gy q.1.1),cond sm (max hi (gy q.1.1)) (gy q.1.1),true) (by show(dH ks).length - (bY++[q]).length<(dH ks).length - bY.length;rw[dK,qj];omega) (by show uz ((bY++[q]).map _) _ _ _;rw[dM];exact hsn)
  ·have hR:l6 ((outs s l o fs day).map gy) (lo,hi):=hsp.get (λe=>hne (List.map_eq_nil_iff.1 e)) (λx=>SS hall hq gy x);refine go ?_;exact aj ⟨0,lo,hi⟩ (hv:=rfl) (hp:=⟨h1.symm,λ_=>hR⟩)
