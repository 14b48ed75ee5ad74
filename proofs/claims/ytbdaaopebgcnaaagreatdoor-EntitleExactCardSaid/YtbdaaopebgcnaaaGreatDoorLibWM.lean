/-
  entitle.Claims, entitle.Total.
-/
import Derived.Test.YtbdaaopebgcnaaaGreatDoorLibVM
import Derived.Test.YtbdaaopebgcnaaaGreatDoorLibQM
set_option linter.all false
set_option maxRecDepth 10000
set_option maxHeartbeats 4000000
namespace Go.Proofs.YtbdaaopebgcnaaaGreatDoor
open Go.Ideal Rk En
structure zl where
 c:Int
 k:Int
 lo:Int
 hi:Int
def lI:Enc zl:=⟨4,Unit,λx _=>[.int .i64 x.c,.int .i64 x.k,.int .i64 x.lo,.int .i64 x.hi],λ_ _=>[],λ_ _=>rfl⟩
def Wi(X:List (List Int))(c:Nat)(x:zl):Prop:=x.c=(c:Int)/\x.k=Ik (x.lo,x.hi)/\nH (DR X c) (x.lo,x.hi)
structure NV where
 v:Value
 e:Int
 L:List zl
abbrev ahH(y:NV):Value:=.tuple ⟨[y.v,.int .i64 y.e]⟩
abbrev ahI(y:NV):List aD:=[ae lI y.v y.L]
def ahJ(s:aK)(l:List ak)(o:List Bool)(fs:List aU)(day:Int)(y:NV):Prop:=y.e=jZ s l o fs day/\(y.e=0->y.L.length=s.c.toNat/\∀(c:Nat) x,y.L[c]? =some x->Wi (outs s l o fs day) c x)
theorem ahK{A B:List Int}{r:Int×Int}(h:∀x,x∈A↔x∈B)(hr:nH A r):nH B r:=⟨⟨(h _).1 hr.1.1,λx hx=>hr.1.2 x ((h x).2 hx)⟩,⟨(h _).1 hr.2.1,λx hx=>hr.2.2 x ((h x).2 hx)⟩⟩
theorem ahL{A:List Int}{lo hi n:Int}(h:nH A (lo,hi)):nH (A++[n]) (min lo n,max hi n):=by
 obtain⟨⟨h1,h2⟩,h3,h4⟩:=h;dsimp only at h1 h2 h3 h4;refine⟨⟨?_,λx hx=>?_⟩,?_,λx hx=>?_⟩
 ·show min lo n∈_;rcases Int.min_def lo n▸(show(if lo<=n then lo else n)=lo\/(if lo<=n then lo else n)=n by split<;>simp)with e|e<;>rw[e]<;>simp[h1]
 ·show min lo n<=x;rcases gF.1 hx with hx|hx
  ·have:=h2 x hx;omega
  ·rw[cz.1 hx];omega
 ·show max hi n∈_;rcases Int.max_def hi n▸(show(if hi<=n then n else hi)=n\/(if hi<=n then n else hi)=hi by split<;>simp)with e|e<;>rw[e]<;>simp[h3]
 ·show x<=max hi n;rcases gF.1 hx with hx|hx
  ·have:=h4 x hx;omega
  ·rw[cz.1 hx];omega
theorem ahM(n:Int):nH [n] (n,n):=⟨⟨by simp,λx hx=>by rw[cz.1 hx];exact EN _⟩,by simp,λx hx=>by rw[cz.1 hx];exact EN _⟩
def wz(A:List Int)(lo hi:Int)(sm:Bool):Prop:=(sm=false->A=[])/\(sm=true->nH A (lo,hi))
theorem wz.snoc{A:List Int}{lo hi n:Int}{sm:Bool}(h:wz A lo hi sm):wz (A++[n]) (cond sm (min lo n) n) (cond sm (max hi n) n) true:=by
 refine⟨(λe=>by cases e),λ_=>?_⟩;cases sm with
 |false=>rw[h.1 rfl];exact ahM n
 |true=>exact ahL (h.2 rfl)
theorem wz.get{A B:List Int}{lo hi:Int}{sm:Bool}(h:wz A lo hi sm)(hB:B≠[])(hm:∀x,x∈A↔x∈B):nH B (lo,hi):=by
 cases sm with
 |true=>exact ahK hm (h.2 rfl)
 |false=>
  exfalso
  obtain⟨x,hx⟩:=List.exists_mem_of_ne_nil _ hB;have:=(hm x).2 hx;rw[h.1 rfl]at this;cases this
theorem Wj{s:aK}{l:List ak}{o:List Bool}{fs:List aU}{day:Int}{ks:List (Vec s.c.toNat)}{dx:List (Vec s.c.toNat×Value)}(hall:∀u:Vec s.c.toNat,u∈ks↔u.1∈outs s l o fs day)(hp:dx.Perm (dX ks))(f:List Int->Int)(x:Int):x∈dx.map (λq=>f q.1.1)↔x∈(outs s l o fs day).map f:=by
 rw[gD,gD];constructor
 ·rintro⟨q,hq,rfl⟩;have:=hp.mem_iff.1 hq;obtain⟨z,hz,e⟩:=gD.1 this;exact⟨q.1.1,(hall q.1).1 (by rw[<- e];exact hz),rfl⟩
 ·rintro⟨u,hu,rfl⟩;have NW:u.length=s.c.toNat:=TZ hu;have:((⟨u,NW⟩:Vec s.c.toNat),Value.bool true)∈dX ks:=gD.2 ⟨⟨u,NW⟩,(hall ⟨u,NW⟩).2 hu,rfl⟩;exact⟨_,hp.mem_iff.2 this,rfl⟩
theorem ahN{c:Nat}{t:Vec c}{k:Nat}(hk:k<c):(iX c t)[k]? =some (t.1.getD k 0):=by
 unfold iX;rw[jF (by rw[t.2];exact hk),iA,bB (by rw[t.2];exact hk)];rfl
theorem Jg{s:aK}{v1 v2 v3 v4 vl vo vf:Value}{l:List ak}{o:List Bool}{fs:List aU}{day:Int}(h4:s.c<=4)(hb1:s.lv.length<9223372036854775808)(hb2:s.cl.length<9223372036854775808)(hb3:s.pz.length<9223372036854775808)(hbf:fs.length<9223372036854775808)(hx1:cellsOf v1=some [v1])(hx2:cellsOf v2=some [v2])(hx3:cellsOf v3=some [v3])(hx4:cellsOf v4=some [v4])(hx5:cellsOf vl=some [vl])(hx6:cellsOf vo=some [vo])(hx7:cellsOf vf=some [vf]):
 aX Tryz.prog (.func 13) [.agg ⟨jD s v1 v2 v3 v4⟩,vl,vo,vf,.int .i64 day] [] [] [l6 0 mU,ae ah v1 s.lv,ae ah v2 s.cl,ae fP v3 s.pg,ae ah v4 s.pz,ae aZ vl l,ae kK vo o,ae dS vf fs] ahH (λ_=>[]) ahI (ahJ s l o fs day):=by
 refine aT _ (bz 13) λB w0=>?_;refine eY (E:=aZ) (v:=vl) (xs:=l) (by simp) λal cl el=>?_;subst el;refine eY (E:=kK) (v:=vo) (xs:=o) (by simp) λao co eo=>?_;subst eo;refine eY (E:=dS) (v:=vf) (xs:=fs) (by simp) λaf cf ef=>?_;subst ef;refine go ?_;intro b5;refine bP (fQ (b:=b5)) (h:=?_);refine go ?_;refine aB (We (s:=s) (v1:=v1) (v2:=v2) (v3:=v3) (v4:=v4) (l:=l) (o:=o) (fs:=fs) (day:=day) h4 hb1 hb2 hb3 hbf hx1 hx2 hx3 hx4 hx5 hx6 hx7) (next:=λy hy=>?_);obtain⟨m,e,ks⟩:=y;obtain⟨rfl,hy⟩:=hy;dsimp only at hy⊢;cases m with
 |none=>
  have hne:jZ s l o fs day≠0:=λh=>by obtain⟨⟨b,hb⟩,_⟩:=hy h;cases hb
  dsimp only[Ew,List.nil_append];refine go ?_;refine aC rfl (λh1=>?_) (λh1=>absurd hne h1);refine go ?_;refine bJ (ae lI (.slice none 0 0) ([]:List zl)) (λw _=>x9 w) ?_;exact aj ⟨.slice none 0 0,jZ s l o fs day,[]⟩ (hv:=rfl) (hp:=⟨rfl,λh=>absurd h hne⟩)
 |some bm=>
  dsimp only[Ew,List.cons_append,List.nil_append];refine go ?_;refine aC rfl (λh1=>?_) (λh1=>?_)
  ·refine go ?_;refine bJ (ae lI (.slice none 0 0) ([]:List zl)) (λw _=>x9 w) ?_;exact aj ⟨.slice none 0 0,jZ s l o fs day,[]⟩ (hv:=rfl) (hp:=⟨rfl,λh=>absurd h h1⟩)
  have h1:jZ s l o fs day=0:=qd.1 h1;obtain⟨_,hall⟩:=hy h1;have hr0:eG s l fs day=0:=by
   apply Classical.byContradiction;intro hk;rw[MU hk]at h1;exact hk h1
  have hol:o.length=l.length:=by
   apply Classical.byContradiction;intro hk;rw[MV hr0 hk]at h1;cases h1
  have hne:=TY hr0 hol;have hck:=l7 (uM hr0).ck;have hc1:=hck.sh.c1;have hc8:s.c.toNat<=8:=by omega
  refine go ?_;refine tq lI ?_;refine bR (λy:Nat×Value×List zl=>s.c.toNat - y.1) (λy=>[(32,.int .i64 (y.1:Int)),(10,y.2.1)]) (λy=>[ap lI y.2.1 y.2.2]) (λ_=>[]) (λy=>y.1<=s.c.toNat/\y.2.2.length=y.1/\∀(c:Nat) x,y.2.2[c]? =some x->Wi (outs s l o fs day) c x) (0,.slice none 0 0,[]) ⟨cu _,rfl,λc x hx=>by simp at hx⟩ (hk:=by repeat (first|exact aI.nil|(apply aI.cons;(focus (repeat (first|exact ai.here|apply ai.there)))))) (body:=?_);rintro⟨c,v10,X⟩ ⟨hc,pW,rY⟩;dsimp only at hc pW rY⊢;refine go ?_;refine aC rfl (λh2=>?_) (λh2=>?_)
  ·refine go ?_;intro b14;refine go ?_;refine GQ (b:=bm) (aJ:=dX ks) (aQ:=dH s.c.toNat) (next:=λr=>?_);refine go ?_;refine bR (λy:List (Vec s.c.toNat×Value)×Int×Int×Bool=>(dX ks).length - y.1.length) (λy=>[]) (λy=>[vM (dH s.c.toNat) r bm (dX ks) y.1,pt b14 (.cells [.int .i64 y.2.1,.int .i64 y.2.2.1,.bool y.2.2.2])]) (λ_=>[]) (λy=>wz (y.1.map λq=>q.1.1.getD c 0) y.2.1 y.2.2.1 y.2.2.2) ([],0,0,false) ⟨λ_=>rfl,λe=>by cases e⟩ (hk:=by repeat (first|exact aI.nil|(apply aI.cons;(focus (repeat (first|exact ai.here|apply ai.there)))))) (body:=?_);rintro⟨dx,lo,hi,sm⟩ hsp;dsimp only at hsp⊢;refine go ?_;refine GR (b:=bm) (aJ:=dX ks) (dx:=dx) (aQ:=dH s.c.toNat) (more:=λq rem hq=>?_) (done:=λhq=>?_) IV
   ·have hlen:=hq.length_eq;rw[dN,oN]at hlen;obtain⟨x0,x1,x2,x3,x4,x5,x6,x7,uQ⟩:=len8 (nK hc8 q.1);have wy:dH s.c.toNat q.1=.agg ⟨[.int .i64 x0,.int .i64 x1,.int .i64 x2,.int .i64 x3,.int .i64 x4,.int .i64 x5,.int .i64 x6,.int .i64 x7]⟩:=by unfold dH;rw[uQ];rfl
    have hget:=ahN (t:=q.1) (k:=c) (by omega);rw[uQ]at hget;refine go ?_;refine GU (aQ:=dH s.c.toNat) (aJ:=dX ks) (dx:=dx) (p:=q) ?_;rw[wy];refine go ?_;intro b15;refine go ?_;refine gp (o:=0+c*1) (cs:=[x0,x1,x2,x3,x4,x5,x6,x7].map (Value.int .i64)) (.int .i64 (q.1.1.getD c 0)) (by rw[bG,fV,bU,hget];rfl) ?_ (hk:=.here);refine go ?_;refine aB (V4 (b:=b14) (lo:=lo) (hi:=hi) (n:=q.1.1.getD c 0) (sm:=sm)) (next:=λ_ _=>?_);have hsn:=hsp.snoc (n:=q.1.1.getD c 0);refine go ?_;refine aL (dx++[q],cond sm (min lo (q.1.1.getD c 0)) (q.1.1.getD c 0),cond sm (max hi (q.1.1.getD c 0)) (q.1.1.getD c 0),true) (by show(dX ks).length - (dx++[q]).length<(dX ks).length - dx.length;rw[dN,su];omega) (by show wz ((dx++[q]).map _) _ _ _;rw[eB];exact hsn)
   ·have hR:nH (DR (outs s l o fs day) c) (lo,hi):=hsp.get (by unfold DR;exact λe=>hne (List.map_eq_nil_iff.1 e)) (λx=>Wj hall hq (λu=>u.getD c 0) x);refine go ?_;refine aC rfl (λh3=>?_) (λh3=>?_)
    ·refine go ?_;intro Wl;refine go ?_;refine lY (xs:=X) lI ⟨(c:Int),1,lo,hi⟩ () (by omega) (next:=λad=>?_);refine go ?_;refine aL (c+1,.slice ad (X.length+1) (X.length+1),X++[⟨(c:Int),1,lo,hi⟩]) (by show s.c.toNat - (c+1)<s.c.toNat - c;omega) ⟨by show c+1<=_;omega,by rw[dN,pW];rfl,λi x hx=>?_⟩;by_cases hi2:i<X.length
     ·rw[jF hi2]at hx;exact rY i x hx
     ·have hil:=(dU.1 hx).1;rw[dN,su]at hil;have hie:i=c:=by omega
      subst hie;rw[lM (by omega),pW,qc]at hx;cases hx;exact⟨rfl,by unfold Ik;rw[if_pos h3],hR⟩
    refine go ?_;refine aC rfl (λh5=>?_) (λh5=>?_)
    ·refine go ?_;intro Wl;refine go ?_;refine lY (xs:=X) lI ⟨(c:Int),3,lo,hi⟩ () (by omega) (next:=λad=>?_);refine go ?_;refine aL (c+1,.slice ad (X.length+1) (X.length+1),X++[⟨(c:Int),3,lo,hi⟩]) (by show s.c.toNat - (c+1)<s.c.toNat - c;omega) ⟨by show c+1<=_;omega,by rw[dN,pW];rfl,λi x hx=>?_⟩;by_cases hi2:i<X.length
     ·rw[jF hi2]at hx;exact rY i x hx
     ·have hil:=(dU.1 hx).1;rw[dN,su]at hil;have hie:i=c:=by omega
      subst hie;rw[lM (by omega),pW,qc]at hx;cases hx;exact⟨rfl,by unfold Ik;rw[if_neg h3,if_pos h5],hR⟩
    ·refine go ?_;intro Wl;refine go ?_;refine lY (xs:=X) lI ⟨(c:Int),2,lo,hi⟩ () (by omega) (next:=λad=>?_);refine go ?_;refine aL (c+1,.slice ad (X.length+1) (X.length+1),X++[⟨(c:Int),2,lo,hi⟩]) (by show s.c.toNat - (c+1)<s.c.toNat - c;omega) ⟨by show c+1<=_;omega,by rw[dN,pW];rfl,λi x hx=>?_⟩;by_cases hi2:i<X.length
     ·rw[jF hi2]at hx;exact rY i x hx
     ·have hil:=(dU.1 hx).1;rw[dN,su]at hil;have hie:i=c:=by omega
      subst hie;rw[lM (by omega),pW,qc]at hx;cases hx;exact⟨rfl,by unfold Ik;rw[if_neg h3,if_neg h5],hR⟩
  have hce:c=s.c.toNat:=by omega
  refine bP (rD (E:=lI) (v:=v10) (xs:=X)) (h:=?_);refine go ?_;exact aj ⟨v10,0,X⟩ (hv:=rfl) (hp:=⟨h1.symm,λ_=>⟨by dsimp only;omega,rY⟩⟩)
theorem ahO{P:Program}{ρ:Operand->Value}{x i:Operand}{n k:Nat}{cs:List Value}{v:Value}(hx:ρ x=.agg ⟨cs⟩)(hi:ρ i=.int .i64 (k:Int))(hk:k<n)(hv:cs[k]? =some v):Pu P ρ (.Jz n 1 false x i) v:=λh=>by
 simp only[au.run,hx,hi];show cond (Nat.blt k n) (match iG cs (Nat.mul k 1)with|some v=>some (v,h)|none=>none) none=_;rw[FP hk,show Nat.mul k 1=k from fV k,nT,hv];rfl
structure Wm where
 e:Int
 lo:Int
 hi:Int
abbrev ahP(y:Wm):Value:=.tuple ⟨[.agg ⟨[.int .i64 y.lo,.int .i64 y.hi]⟩,.int .i64 y.e]⟩
def ahQ(s:aK)(l:List ak)(o:List Bool)(fs:List aU)(day:Int)(y:Wm):Prop:=y.e=jZ s l o fs day/\(y.e=0->nH ((outs s l o fs day).map fA) (y.lo,y.hi))
theorem ahR(n:Nat):fA (List.replicate n 0)=0:=by
 induction n with
 |zero=>rfl
 |succ n ih=>rw[BK,xI,ih];rfl
theorem Wn{s:aK}{l:List ak}{o:List Bool}{fs:List aU}{day:Int}(hr:eG s l fs day=0)(hol:o.length=l.length){u:List Int}(hu:u∈outs s l o fs day):u.length=s.c.toNat/\∀x∈u,0<=x/\x<=8388608:=by
 refine⟨TZ hu,λx hx=>?_⟩;obtain⟨m,_,t,ht,rfl⟩:=xM.1 hu;have hp:=NT (l7 (Ij hr hol m)) ht;obtain⟨r,hr2,rfl⟩:=gD.1 hx;exact agV hp hr2
theorem NY{s:aK}{v1 v2 v3 v4 vl vo vf:Value}{l:List ak}{o:List Bool}{fs:List aU}{day:Int}(h4:s.c<=4)(hb1:s.lv.length<9223372036854775808)(hb2:s.cl.length<9223372036854775808)(hb3:s.pz.length<9223372036854775808)(hbf:fs.length<9223372036854775808)(hx1:cellsOf v1=some [v1])(hx2:cellsOf v2=some [v2])(hx3:cellsOf v3=some [v3])(hx4:cellsOf v4=some [v4])(hx5:cellsOf vl=some [vl])(hx6:cellsOf vo=some [vo])(hx7:cellsOf vf=some [vf]):
 aX Tryz.prog (.func 14) [.agg ⟨jD s v1 v2 v3 v4⟩,vl,vo,vf,.int .i64 day] [] [] [l6 0 mU,ae ah v1 s.lv,ae ah v2 s.cl,ae fP v3 s.pg,ae ah v4 s.pz,ae aZ vl l,ae kK vo o,ae dS vf fs] ahP (λ_=>[]) (λ_=>[]) (ahQ s l o fs day):=by
 refine aT _ (bz 14) λB w0=>?_;refine eY (E:=aZ) (v:=vl) (xs:=l) (by simp) λal cl el=>?_;subst el;refine eY (E:=kK) (v:=vo) (xs:=o) (by simp) λao co eo=>?_;subst eo;refine eY (E:=dS) (v:=vf) (xs:=fs) (by simp) λaf cf ef=>?_;subst ef;refine go ?_;intro b5 b10;refine bP (fQ (b:=b5)) (h:=?_);refine go ?_;refine aB (We (s:=s) (v1:=v1) (v2:=v2) (v3:=v3) (v4:=v4) (l:=l) (o:=o) (fs:=fs) (day:=day) h4 hb1 hb2 hb3 hbf hx1 hx2 hx3 hx4 hx5 hx6 hx7) (next:=λy hy=>?_);obtain⟨m,e,ks⟩:=y;obtain⟨rfl,hy⟩:=hy;dsimp only at hy⊢;cases m with
 |none=>
  have hne:jZ s l o fs day≠0:=λh=>by obtain⟨⟨b,hb⟩,_⟩:=hy h;cases hb
  dsimp only[Ew,List.nil_append];refine go ?_;refine aC rfl (λh1=>?_) (λh1=>absurd hne h1);refine go ?_;exact aj ⟨jZ s l o fs day,0,0⟩ (hv:=rfl) (hp:=⟨rfl,λh=>absurd h hne⟩)
 |some bm=>
  dsimp only[Ew,List.cons_append,List.nil_append];refine go ?_;refine aC rfl (λh1=>?_) (λh1=>?_)
  ·refine go ?_;exact aj ⟨jZ s l o fs day,0,0⟩ (hv:=rfl) (hp:=⟨rfl,λh=>absurd h h1⟩)
  have h1:jZ s l o fs day=0:=qd.1 h1;obtain⟨_,hall⟩:=hy h1;have hr0:eG s l fs day=0:=by
   apply Classical.byContradiction;intro hk;rw[MU hk]at h1;exact hk h1
  have hol:o.length=l.length:=by
   apply Classical.byContradiction;intro hk;rw[MV hr0 hk]at h1;cases h1
  have hne:=TY hr0 hol;have hck:=l7 (uM hr0).ck;have hc1:=hck.sh.c1;have hc8:s.c.toNat<=8:=by omega
  refine go ?_;intro b13;refine go ?_;refine GQ (b:=bm) (aJ:=dX ks) (aQ:=dH s.c.toNat) (next:=λr=>?_);refine go ?_;refine bR (λy:List (Vec s.c.toNat×Value)×Int×Int×Bool=>(dX ks).length - y.1.length) (λy=>[]) (λy=>[vM (dH s.c.toNat) r bm (dX ks) y.1,pt b13 (.cells [.int .i64 y.2.1,.int .i64 y.2.2.1,.bool y.2.2.2])]) (λ_=>[]) (λy=>wz (y.1.map λq=>fA q.1.1) y.2.1 y.2.2.1 y.2.2.2) ([],0,0,false) ⟨λ_=>rfl,λe=>by cases e⟩ (hk:=by repeat (first|exact aI.nil|(apply aI.cons;(focus (repeat (first|exact ai.here|apply ai.there)))))) (body:=?_);rintro⟨dx,lo,hi,sm⟩ hsp;dsimp only at hsp⊢;refine go ?_;refine GR (b:=bm) (aJ:=dX ks) (dx:=dx) (aQ:=dH s.c.toNat) (more:=λq rem hq=>?_) (done:=λhq=>?_) IV
  ·have hlen:=hq.length_eq;rw[dN,oN]at hlen;have hqk:q.1∈ks:=by
    have:q∈dX ks:=hq.mem_iff.1 (by simp);obtain⟨z,hz,e⟩:=gD.1 this;rw[<- e];exact hz
   obtain⟨_,hqr⟩:=Wn hr0 hol ((hall q.1).1 hqk);obtain⟨x0,x1,x2,x3,x4,x5,x6,x7,uQ⟩:=len8 (nK hc8 q.1);have wy:dH s.c.toNat q.1=.agg ⟨[.int .i64 x0,.int .i64 x1,.int .i64 x2,.int .i64 x3,.int .i64 x4,.int .i64 x5,.int .i64 x6,.int .i64 x7]⟩:=by unfold dH;rw[uQ];rfl
   have hrx:∀x∈[x0,x1,x2,x3,x4,x5,x6,x7],0<=x/\x<=8388608:=λx hx=>by
    rw[<- uQ]at hx;rcases gF.1 hx with hx|hx
    ·exact hqr x hx
    ·rw[Ju hx];omega
   have hsum:fA [x0,x1,x2,x3,x4,x5,x6,x7]=fA q.1.1:=by
    rw[<- uQ];unfold iX;rw[DF,ahR];omega
   generalize hxs:[x0,x1,x2,x3,x4,x5,x6,x7]=xs at hrx hsum;have ahT:xs.length=8:=by rw[<- hxs];rfl
   refine go ?_;refine GU (aQ:=dH s.c.toNat) (aJ:=dX ks) (dx:=dx) (p:=q) ?_;rw[wy];refine go ?_;intro b14;refine go ?_;refine bR (λk=>8 - k) (λk:Nat=>[(39,.int .i64 (k:Int)),(15,.int .i64 (fA (xs.take k)))]) (λ_=>[]) (λ_=>[]) (λk=>k<=8) 0 (cu _) (body:=?_);intro k hk;have hs0:0<=fA (xs.take k):=H9 λx hx=>(hrx x (uS hx)).1;have hs1:=Ia (c:=8388608) (l:=xs.take k) (λx hx=>(hrx x (uS hx)).2);rw[cB,ahT,wI hk]at hs1;refine go ?_;refine aC rfl (λh5=>?_) (λh5=>?_)
   ·have hx:xs[k]? =some (xs[k]'(by omega)):=bB _;generalize xs[k]'(by omega)=x at hx;have pV:=hrx x (dA hx);refine go ?_;refine(bC rfl rfl (ahO (n:=8) (k:=k) (cs:=xs.map (.int .i64)) (v:=.int .i64 x) (by rw[<- hxs];rfl) rfl (by omega) (by rw[bU,hx];rfl))).h ?_;refine go ?_;rw[show fA (xs.take k)+x=fA (xs.take (k+1))by rw[eD hx,DF,xI,Bg];omega];exact aL (k+1) (by omega) (by omega)
   have hke:k=8:=by omega
   subst hke;rw[nO (by omega),hsum];refine go ?_;refine aB (V4 (b:=b13) (lo:=lo) (hi:=hi) (n:=fA q.1.1) (sm:=sm)) (next:=λ_ _=>?_);have hsn:=hsp.snoc (n:=fA q.1.1);refine go ?_;refine aL (dx++[q],cond sm (min lo (fA q.1.1)) (fA q.1.1),cond sm (max hi (fA q.1.1)) (fA q.1.1),true) (by show(dX ks).length - (dx++[q]).length<(dX ks).length - dx.length;rw[dN,su];omega) (by show wz ((dx++[q]).map _) _ _ _;rw[eB];exact hsn)
  ·have hR:nH ((outs s l o fs day).map fA) (lo,hi):=hsp.get (λe=>hne (List.map_eq_nil_iff.1 e)) (λx=>Wj hall hq fA x);refine go ?_;exact aj ⟨0,lo,hi⟩ (hv:=rfl) (hp:=⟨h1.symm,λ_=>hR⟩)
