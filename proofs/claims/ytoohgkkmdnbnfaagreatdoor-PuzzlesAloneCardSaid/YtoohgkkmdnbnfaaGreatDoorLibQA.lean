/-
  The reference's names: which names are twice; where a name stands; sets of symbols.
-/
import Derived.Test.YtoohgkkmdnbnfaaGreatDoorLibCA
set_option linter.all false
set_option maxRecDepth 10000
set_option maxHeartbeats 4000000
namespace Go.Proofs.YtoohgkkmdnbnfaaGreatDoor
open Go.Ideal Kd
noncomputable def Vm:gN:=⟨2,[(.tmp 0)],(.seq (.ops [0] [⟨⟨(some 0),none,(.jc (.const (.slice none 0 0)))⟩,[]⟩]) (.seq (.ops [1,0] [⟨⟨(some 1),none,(.vo 9 8 [(.string ⟨⟨[]⟩⟩),(.string ⟨⟨[]⟩⟩),(.string ⟨⟨[]⟩⟩),(.string ⟨⟨[]⟩⟩),(.string ⟨⟨[]⟩⟩),(.string ⟨⟨[]⟩⟩),(.string ⟨⟨[]⟩⟩),(.string ⟨⟨[]⟩⟩)] [⟨0,⟨1,(.const (.string ⟨⟨[99,101,108,108,115]⟩⟩))⟩⟩,⟨1,⟨1,(.const (.string ⟨⟨[114,111,119,115]⟩⟩))⟩⟩,⟨2,⟨1,(.const (.string ⟨⟨[99,111,108,117,109,110,115]⟩⟩))⟩⟩,⟨3,⟨1,(.const (.string ⟨⟨[100,105,97,103,111,110,97,108,115]⟩⟩))⟩⟩,⟨4,⟨1,(.const (.string ⟨⟨[97,114,111,117,110,100]⟩⟩))⟩⟩,⟨5,⟨1,(.const (.string ⟨⟨[110,101,97,114]⟩⟩))⟩⟩,⟨6,⟨1,(.const (.string ⟨⟨[112,97,105,114,115]⟩⟩))⟩⟩,⟨7,⟨1,(.const (.string ⟨⟨[97,108,108]⟩⟩))⟩⟩])⟩,[]⟩,⟨⟨(some 0),none,(.jc (.tmp 1))⟩,[]⟩]) .ret))⟩
theorem agR:kZ Tryz.prog 124=some Vm:=by kernel_rfl
theorem F4{s:ByteArray}:∀{l:List ByteArray} {k:Nat},l[k]? =some s->s∉l.take k->dS s l=k
 |[],k,h,_=>by simp at h
 |a::l,0,h,_=>by
  have h:a=s:=by simpa using h
  unfold dS;rw[if_pos h.symm]
 |a::l,k+1,h,hn=>by
  have h:l[k]? =some s:=by simpa using h
  rw[List.take_succ_cons,dF,not_or]at hn;unfold dS;rw[if_neg hn.1,F4 h hn.2]
theorem Vn{α:Type}{xs:List α}{k:Nat}{x:α}(hx:xs[k]? =some x):(xs.take (k+1)).Nodup↔(xs.take k).Nodup/\x∉xs.take k:=by
 rw[bY hx,iN];constructor
 ·rintro⟨h1,_,h2⟩;exact⟨h1,λh=>h2 x h x (bH.2 rfl) rfl⟩
 ·rintro⟨h1,h2⟩;exact⟨h1,by simp,λa ha b hb e=>h2 (by rw[bH.1 hb]at e;rw[<- e];exact ha)⟩
theorem Jn{vl:Value}{xs:List ByteArray}(hl:xs.length<9223372036854775808):dz Tryz.prog 123 [vl] [ah aR vl xs] (.bool (!decide xs.Nodup)):=by
 refine aK _ (aP 123) λB w0=>?_;refine aS (E:=aR) (v:=vl) (xs:=xs) (by simp) λa1 c1 e1=>?_;subst e1;refine go ?_;refine aZ (λk=>xs.length - k) (λk:Nat=>[(3,.int .i64 (k:Int))]) (λ_=>[]) (λ_=>[]) (λk=>k<=xs.length/\(xs.take k).Nodup) 0 ⟨by omega,by simp⟩ (body:=?_);rintro k ⟨hk,hnd⟩;refine go ?_;refine aA rfl (λh1=>?_) (λh1=>?_)
 ·have hx:xs[k]? =some (xs[k]'(by omega)):=cB _;generalize xs[k]'(by omega)=x at hx;refine go ?_;refine aZ (λj=>k - j) (λj:Nat=>[(4,.int .i64 (j:Int))]) (λ_=>[]) (λ_=>[]) (λj=>j<=k/\x∉xs.take j) 0 ⟨by omega,by simp⟩ (body:=?_);rintro j ⟨hj,hno⟩;refine go ?_;refine aA rfl (λh2=>?_) (λh2=>?_)
  ·refine go ?_;refine bz aR (xs:=xs) (next:=λ_ _ x' (_:Unit) hx'=>?_);cases hx.symm.trans hx';refine go ?_;refine bz aR (xs:=xs) (next:=λ_ _ y (_:Unit) hy=>?_);refine go ?_;refine j6 rfl (λh3=>?_) (λh3=>?_)
   ·rw[dY]at h3;have h3:=gY h3;subst h3;refine go ?_;refine ae () (hv:=?_) (hp:=trivial);rw[aT (λhn=>by
     have h4:(xs.take (k+1)).Nodup:=hn.sublist (OC _ _);rw[Vn hx]at h4;exact h4.2 (uk.2 ⟨j,by rw[pE,if_pos (by omega)];exact hy⟩))];rfl
   ·rw[dY]at h3;have h3:=mY h3;refine go ?_;refine aQ (j+1) (by omega) ⟨by omega,?_⟩;rw[bY hy,dV,not_or];exact⟨hno,by simp;exact h3⟩
  have hjk:j=k:=by omega
  subst hjk;refine go ?_;exact aQ (j+1) (by omega) ⟨by omega,(Vn hx).2 ⟨hnd,hno⟩⟩
 have hkl:k=xs.length:=by omega
 subst hkl;rw[bK]at hnd;refine go ?_;refine ae () (hv:=?_) (hp:=trivial);rw[dZ hnd];rfl
theorem Vo:bi Tryz.prog (.func 124) [] [] [] [] (λa:Option Addr=>.slice a iI.length iI.length) (λa=>[ap aR (.slice a iI.length iI.length) iI]) (λ_=>[]) (λ_=>True):=by
 refine aK Vm agR λB w0=>?_;refine go ?_;intro b;refine go ?_;refine rU (b:=b) (m:=iI.length) (f:=0) aR (az:=iI.map λs=>(s,())) rfl (.inl rfl) ?_ (hk:=ay.here);refine ab0 (E:=aR) (az:=iI.map λs=>(s,())) (by decide) ?_ (λw hw p hp f hf=>by cases hf);show R _ _ _ [ap aR (.slice (some ⟨b,0,some 0⟩) iI.length iI.length) iI] _;exact ae (some ⟨b,0,some 0⟩) (hv:=rfl) (hp:=trivial)
def N7(s:ByteArray)(l:List ByteArray)(y:Nat×Bool):Prop:=(y.2=true↔s∈l)/\(y.2=true->dS s l=y.1)
abbrev N8(y:Nat×Bool):Value:=.tuple ⟨[.int .i64 (y.1:Int),.bool y.2]⟩
theorem agS{d:bE}{s:ByteArray}{vh vs vr vc vu:Value}(hl:d.symbols.length<9223372036854775808):bi Tryz.prog (.func 269) [.agg ⟨gF d vh vs vr vc vu⟩,.string s] [] [] [ah fF vs d.symbols] N8 (λ_=>[]) (λ_=>[]) (N7 s (bP d)):=by
 refine aK _ (aP 269) λB w0=>?_;refine aS (E:=fF) (v:=vs) (xs:=d.symbols) (by simp) λa1 c1 e1=>?_;subst e1;refine go ?_;intro b1;refine go ?_;refine aZ (λk=>d.symbols.length - k) (λk:Nat=>[(6,.int .i64 (k:Int))]) (λ_=>[]) (λ_=>[]) (λk=>k<=d.symbols.length/\s∉(bP d).take k) 0 ⟨by omega,by simp⟩ (body:=?_);rintro k ⟨hk,hno⟩;refine go ?_;refine aA rfl (λh1=>?_) (λh1=>?_)
 ·refine go ?_;refine bz fF (xs:=d.symbols) (next:=λ_ _ x _ hx=>?_);have lc:(bP d)[k]? =some x.name:=by unfold bP;rw[eZ,hx];rfl
  refine go ?_;refine j6 rfl (λh2=>?_) (λh2=>?_)
  ·rw[dY]at h2;have h2:=gY h2;subst h2;refine go ?_;exact ae (k,true) (hv:=rfl) (hp:=⟨⟨λ_=>bG lc,λ_=>rfl⟩,λ_=>F4 lc hno⟩)
  ·rw[dY]at h2;have h2:=mY h2;refine go ?_;refine aQ (k+1) (by omega) ⟨by omega,?_⟩;rw[bY lc,dV,not_or];exact⟨hno,by simp;exact λe=>h2 e.symm⟩
 have hkl:k=d.symbols.length:=by omega
 subst hkl;rw[show(bP d).take d.symbols.length=bP d from sH (by simp[bP])]at hno;refine go ?_;exact ae (0,false) (hv:=rfl) (hp:=⟨⟨(λh=>by cases h),λh=>absurd h hno⟩,(λh=>by cases h)⟩)
theorem Vp{d:bE}{s:ByteArray}{vh vs vr vc vu:Value}(hl:d.aJ.length<9223372036854775808):bi Tryz.prog (.func 239) [.agg ⟨gF d vh vs vr vc vu⟩,.string s] [] [] [ah bM vc d.aJ] N8 (λ_=>[]) (λ_=>[]) (N7 s (dK d)):=by
 refine aK _ (aP 239) λB w0=>?_;refine aS (E:=bM) (v:=vc) (xs:=d.aJ) (by simp) λa1 c1 e1=>?_;subst e1;refine go ?_;intro b1;refine go ?_;refine aZ (λk=>d.aJ.length - k) (λk:Nat=>[(6,.int .i64 (k:Int))]) (λ_=>[]) (λ_=>[]) (λk=>k<=d.aJ.length/\s∉(dK d).take k) 0 ⟨by omega,by simp⟩ (body:=?_);rintro k ⟨hk,hno⟩;refine go ?_;refine aA rfl (λh1=>?_) (λh1=>?_)
 ·refine go ?_;refine bz bM (xs:=d.aJ) (next:=λ_ _ x _ hx=>?_);have lc:(dK d)[k]? =some x.name:=by unfold dK;rw[eZ,hx];rfl
  refine go ?_;refine j6 rfl (λh2=>?_) (λh2=>?_)
  ·rw[dY]at h2;have h2:=gY h2;subst h2;refine go ?_;exact ae (k,true) (hv:=rfl) (hp:=⟨⟨λ_=>bG lc,λ_=>rfl⟩,λ_=>F4 lc hno⟩)
  ·rw[dY]at h2;have h2:=mY h2;refine go ?_;refine aQ (k+1) (by omega) ⟨by omega,?_⟩;rw[bY lc,dV,not_or];exact⟨hno,by simp;exact λe=>h2 e.symm⟩
 have hkl:k=d.aJ.length:=by omega
 subst hkl;rw[show(dK d).take d.aJ.length=dK d from sH (by simp[dK])]at hno;refine go ?_;exact ae (0,false) (hv:=rfl) (hp:=⟨⟨(λh=>by cases h),λh=>absurd h hno⟩,(λh=>by cases h)⟩)
def nZ(d:bE):List ByteArray:=d.regions.map (·.name)
theorem agT{s:ByteArray}{a b:List ByteArray}(h:s∉a):dS s (a++b)=a.length+dS s b:=by
 induction a with
 |nil=>simp
 |cons x a ih=>
  rw[dF,not_or]at h;show(if s=x then 0 else dS s (a++b)+1)=_;rw[if_neg h.1,ih h.2,nK];omega
theorem agU{s:ByteArray}{a b:List ByteArray}(h:s∈a):dS s (a++b)=dS s a:=by
 induction a with
 |nil=>cases h
 |cons x a ih=>
  show(if s=x then 0 else dS s (a++b)+1)=if s=x then 0 else dS s a+1
  by_cases e:s=x
  ·rw[if_pos e,if_pos e]
  ·rw[if_neg e,if_neg e,ih ((dF.1 h).resolve_left e)]
theorem Vq{d:bE}{s:ByteArray}{vh vs vr vc vu:Value}(hl:d.regions.length<=4096):bi Tryz.prog (.func 170) [.agg ⟨gF d vh vs vr vc vu⟩,.string s] [] [] [ah eH vr d.regions] N8 (λ_=>[]) (λ_=>[]) (N7 s (bW d)):=by
 have hgl:iI.length=8:=rfl;refine aK _ (aP 170) λB w0=>?_;refine aS (E:=eH) (v:=vr) (xs:=d.regions) (by simp) λa1 c1 e1=>?_;subst e1;refine go ?_;intro b1;refine go ?_;refine ax Vo (next:=λag _=>?_);refine bD (gH (E:=aR) (v:=.slice ag iI.length iI.length) (xs:=iI)) (h:=?_);refine go ?_;refine aZ (λk=>iI.length - k) (λk:Nat=>[(7,.int .i64 (k:Int))]) (λ_=>[]) (λ_=>[]) (λk=>k<=iI.length/\s∉iI.take k) 0 ⟨by omega,by simp⟩ (body:=?_);rintro k ⟨hk,hno⟩;refine go ?_;refine aA rfl (λh1=>?_) (λh1=>?_)
 ·refine go ?_;refine bz aR (xs:=iI) (next:=λ_ _ x (_:Unit) hx=>?_);refine go ?_;refine j6 rfl (λh2=>?_) (λh2=>?_)
  ·rw[dY]at h2;have h2:=gY h2;subst h2;refine go ?_;exact ae (k,true) (hv:=rfl) (hp:=⟨⟨λ_=>jP _ (bG hx),λ_=>rfl⟩,λ_=>(agU (bG hx)).trans (F4 hx hno)⟩)
  ·rw[dY]at h2;have h2:=mY h2;refine go ?_;refine aQ (k+1) (by omega) ⟨by omega,?_⟩;rw[bY hx,dV,not_or];exact⟨hno,by simp;exact λe=>h2 e.symm⟩
 have hkl:k=iI.length:=by omega
 subst hkl;rw[bK]at hno;have DT:=hno;clear hno hk h1;refine go ?_;refine aZ (λk=>d.regions.length - k) (λk:Nat=>[(8,.int .i64 (k:Int))]) (λ_=>[]) (λ_=>[]) (λk=>k<=d.regions.length/\s∉(nZ d).take k) 0 ⟨by omega,by simp⟩ (body:=?_);rintro k ⟨hk,hno⟩;refine go ?_;refine aA rfl (λh1=>?_) (λh1=>?_)
 ·refine go ?_;refine bz eH (xs:=d.regions) (next:=λ_ _ x (_:Value) hx=>?_);have lc:(nZ d)[k]? =some x.name:=by unfold nZ;rw[eZ,hx];rfl
  refine go ?_;refine j6 rfl (λh2=>?_) (λh2=>?_)
  ·rw[dY]at h2;have h2:=gY h2;subst h2;refine go ?_;refine ae (8+k,true) (hv:=?_) (hp:=⟨⟨λ_=>mJ _ (bG lc),λ_=>rfl⟩,λ_=>(agT DT).trans ?_⟩)
   ·show Value.tuple ⟨[.int .i64 (8+(k:Int)),.bool true]⟩=.tuple ⟨[.int .i64 ((8+k:Nat):Int),.bool true]⟩;rw[show((8+k:Nat):Int)=8+(k:Int)by omega]
   ·have:=F4 lc hno;unfold nZ at this;rw[this];rfl
  ·rw[dY]at h2;have h2:=mY h2;refine go ?_;refine aQ (k+1) (by omega) ⟨by omega,?_⟩;rw[bY lc,dV,not_or];exact⟨hno,by simp;exact λe=>h2 e.symm⟩
 have hkl:k=d.regions.length:=by omega
 subst hkl;rw[show(nZ d).take d.regions.length=nZ d from sH (by simp[nZ])]at hno;refine go ?_;exact ae (0,false) (hv:=rfl) (hp:=⟨⟨(λh=>by cases h),λh=>by
  rcases dV.1 h with h|h
  ·exact absurd h DT
  ·exact absurd h hno⟩,(λh=>by cases h)⟩)
theorem Jo{d:bE}{l:List ByteArray}{vh vs vr vc vu vl:Value}(hs:d.symbols.length<=16)(hl:l.length<9223372036854775808):
 bi Tryz.prog (.func 238) [.agg ⟨gF d vh vs vr vc vu⟩,vl] [] [] [ah fF vs d.symbols,ah aR vl l] (λy:Bool=>.tuple ⟨[.int .i64 (cond y (fZ (bP d) l:Int) 0),.bool y]⟩) (λ_=>[]) (λ_=>[]) (λy=>y=true↔∀s∈l,s∈bP d):=by
 have hsl:(bP d).length<=16:=by simp[bP];exact hs
 refine aK _ (aP 238) λB w0=>?_;refine aS (E:=aR) (v:=vl) (xs:=l) (by simp) λa1 c1 e1=>?_;subst e1;refine go ?_;intro b1;refine go ?_;refine aZ (λk=>l.length - k) (λk:Nat=>[(7,.int .i64 (k:Int)),(6,.int .i64 (fZ (bP d) (l.take k):Int))]) (λ_=>[]) (λ_=>[]) (λk=>k<=l.length/\∀s∈l.take k,s∈bP d) 0 ⟨cz _,by simp⟩ (body:=?_);rintro k ⟨hk,hall⟩;refine go ?_;refine aA rfl (λh1=>?_) (λh1=>?_)
 ·refine go ?_;refine bz aR (xs:=l) (next:=λ_ _ x (_:Unit) hx=>?_);refine go ?_;refine ax (agS (d:=d) (s:=x) (vh:=vh) (vs:=vs) (vr:=vr) (vc:=vc) (vu:=vu) (by omega)) (next:=λy hy=>?_);obtain⟨n,ok⟩:=y;obtain⟨hy1,hy2⟩:=hy;dsimp only at hy1 hy2;refine go ?_;cases ok with
  |false=>
   refine go ?_;exact ae false (hv:=rfl) (hp:=⟨(λh=>by cases h),λh=>by have:=hy1.2 (h x (bG hx));cases this⟩)
  |true=>
   have hm:=hy1.1 rfl;have hp:=yu hm;have hn:=hy2 rfl;subst hn;have h2:1<<<dS x (bP d)<2^16:=by
    rw[Nat.shiftLeft_eq,yZ];exact JJ (by omega) (by omega)
   have h3:=MW hsl (l.take k) 0 hall (by omega);refine go ?_;refine(eD rfl rfl (LJ (a:=1) (b:=dS x (bP d)) rfl rfl (by omega) (by omega))).h ?_;refine(eD rfl rfl (Ra (a:=fZ (bP d) (l.take k)) (b:=1<<<dS x (bP d)) rfl rfl (Nat.lt_trans h3 (by omega)) (by omega))).h ?_;refine go ?_;refine aQ (k+1) (by omega) ⟨by omega,λs hs'=>?_⟩ (hl:=⟨rfl,by rw[Um hx];rfl,by repeat (first|exact trivial|refine⟨rfl,?_⟩)⟩);rw[mM,hx]at hs';rcases dV.1 hs' with h|h
   ·exact hall s h
   ·have:s=x:=by simpa using h
    rw[this];exact hm
 have hkl:k=l.length:=by omega
 subst hkl;rw[bK]at hall⊢;refine go ?_;exact ae true (hv:=rfl) (hp:=⟨λ_=>hall,λ_=>rfl⟩)
theorem agV{d:bE}{vh vs vr vc vu:Value}(hrl:d.regions.length<=4096)(hcl:d.aJ.length<=4096):
 bi Tryz.prog (.func 125) [.agg ⟨gF d vh vs vr vc vu⟩] [] [] [ah eH vr d.regions,ah bM vc d.aJ] uT (λ_=>[]) (λy=>[mF (y.e=0) (ah bM y.v (d.aJ.map (lm (bW d))))]) (λy=>y.e=0↔(dK d).Nodup/\∀c∈d.aJ,c.on∈bW d):=by
 refine aK _ (aP 125) λB w0=>?_;refine aS (E:=bM) (v:=vc) (xs:=d.aJ) (by simp) λa1 c1 e1=>?_;subst e1;refine go ?_;intro b1;refine bD (eO (b:=b1)) (h:=?_);refine go ?_;refine gI aR ?_;refine aZ (λy:Nat×Value=>d.aJ.length - y.1) (λy=>[(5,.int .i64 (y.1:Int)),(4,y.2)]) (λy=>[ap aR y.2 ((dK d).take y.1)]) (λ_=>[]) (λy=>y.1<=d.aJ.length) (0,.slice none 0 0) (cz _) (hk:=by repeat (first|exact aI.nil|(apply aI.cons;(focus (repeat (first|exact ay.here|apply ay.there)))))) (body:=?_);rintro⟨k,v4⟩ hk;dsimp only at hk⊢;have hil:((dK d).take k).length=k:=by rw[gM];simp[dK];omega
 refine go ?_;refine aA rfl (λh1=>?_) (λh1=>?_)
 ·refine go ?_;refine bz bM (xs:=d.aJ) (next:=λ_ _ x _ hx=>?_);have lc:(dK d)[k]? =some x.name:=by unfold dK;rw[eZ,hx];rfl
  refine go ?_;intro CG;refine go ?_;refine fC aR (xs:=(dK d).take k) x.name () (by omega) (next:=λad=>?_);rw[<- bY lc];refine go ?_;exact aQ (k+1,.slice ad (((dK d).take k).length+1) (((dK d).take k).length+1)) (by show d.aJ.length - (k+1)<d.aJ.length - k;omega) (by show k+1<=_;omega)
 have hkl:k=d.aJ.length:=by omega
 subst hkl;rw[show(dK d).take d.aJ.length=dK d from sH (by simp[dK])];refine bD (gH (E:=aR) (v:=v4) (xs:=dK d)) (h:=?_);refine go ?_;refine ax (Jn (vl:=v4) (xs:=dK d) (by simp[dK];omega)) (next:=λ_ _=>?_);refine go ?_;refine eU rfl (λh2=>?_) (λh2=>?_)
 ·refine go ?_;refine lU (c:=(161:Int)=0) (f:=ah bM (.slice none 0 0) (d.aJ.map (lm (bW d)))) (by omega) ?_;exact ae ⟨.slice none 0 0,161⟩ (hv:=rfl) (hp:=⟨(λh=>by cases h),λh=>absurd h.1 h2⟩)
 refine go ?_;refine gI bM ?_;refine aZ (λy:Nat×Value=>d.aJ.length - y.1) (λy=>[(7,.int .i64 (y.1:Int)),(6,y.2)]) (λy=>[ap bM y.2 ((d.aJ.map (lm (bW d))).take y.1)]) (λ_=>[]) (λy=>y.1<=d.aJ.length/\∀c∈d.aJ.take y.1,c.on∈bW d) (0,.slice none 0 0) ⟨cz _,by simp⟩ (hk:=by repeat (first|exact aI.nil|(apply aI.cons;(focus (repeat (first|exact ay.here|apply ay.there)))))) (body:=?_);rintro⟨k,v6⟩ ⟨hk,hall⟩;dsimp only at hk hall⊢;have hil:((d.aJ.map (lm (bW d))).take k).length=k:=by rw[gM,bR];omega
 refine go ?_;refine aA rfl (λh3=>?_) (λh3=>?_)
 ·refine go ?_;refine bz bM (xs:=d.aJ) (next:=λ_ _ x (_:Unit) hx=>?_);have hxm:(d.aJ.map (lm (bW d)))[k]? =some (lm (bW d) x):=by rw[eZ,hx];rfl
  refine go ?_;intro b8;refine go ?_;refine ax (Vq (d:=d) (s:=x.on) (vh:=vh) (vs:=vs) (vr:=vr) (vc:=.slice a1 d.aJ.length c1) (vu:=vu) hrl) (next:=λy hy=>?_);obtain⟨n,ok⟩:=y;obtain⟨hy1,hy2⟩:=hy;dsimp only at hy1 hy2;refine go ?_;cases ok with
  |false=>
   refine go ?_;refine lU (c:=(160:Int)=0) (f:=ah bM (.slice none 0 0) (d.aJ.map (lm (bW d)))) (by omega) ?_;exact ae ⟨.slice none 0 0,160⟩ (hv:=rfl) (hp:=⟨(λh=>by cases h),λh=>by have:=hy1.2 (h.2 x (bG hx));cases this⟩)
  |true=>
   have hn:=hy2 rfl;subst hn;refine go ?_;intro b54;refine go ?_;refine fC bM (xs:=(d.aJ.map (lm (bW d))).take k) (lm (bW d) x) () (by omega) (next:=λad=>?_);rw[<- bY hxm];refine go ?_;refine aQ (k+1,.slice ad (((d.aJ.map (lm (bW d))).take k).length+1) (((d.aJ.map (lm (bW d))).take k).length+1)) (by show d.aJ.length - (k+1)<d.aJ.length - k;omega) ⟨by show k+1<=_;omega,?_⟩;show∀c∈d.aJ.take (k+1),c.on∈bW d;rw[bY hx];intro c hc;rcases dV.1 hc with hc|hc
   ·exact hall c hc
   ·rw[bH.1 hc];exact hy1.1 rfl
 have hkl:k=d.aJ.length:=by omega
 subst hkl;rw[bK]at hall;rw[show(d.aJ.map (lm (bW d))).take d.aJ.length=d.aJ.map (lm (bW d))from sH (by simp)];refine bD (gH (E:=bM) (v:=v6) (xs:=d.aJ.map (lm (bW d)))) (h:=?_);refine go ?_;refine kX (c:=(0:Int)=0) (f:=ah bM v6 (d.aJ.map (lm (bW d)))) (by simp) ?_;exact ae ⟨v6,0⟩ (hv:=rfl) (hp:=⟨λ_=>⟨h2,hall⟩,λ_=>rfl⟩)
abbrev RlP(d:bE)(r:aU)(y:aU×Bool):Prop:=(y.2=true↔zX (bP d) (bW d) (dK d) r)/\(y.2=true->y.1=mh (bP d) (bW d) (dK d) r)
theorem agY{d:bE}{r:aU}{vh vs vr vc vu v1 v2:Value}(hs:d.symbols.length<=16)(hrl:d.regions.length<=4096)(hcl:d.aJ.length<=4096)(h1:r.names.length<9223372036854775808)(h2:r.others.length<9223372036854775808):
 bi Tryz.prog (.func 171) [.agg ⟨gF d vh vs vr vc vu⟩,.agg ⟨iT r v1 v2⟩] [] [] [ah fF vs d.symbols,ah eH vr d.regions,ah bM vc d.aJ,ah aR v1 r.names,ah aR v2 r.others] (λy:aU×Bool=>.tuple ⟨[.agg ⟨iT y.1 v1 v2⟩,.bool y.2]⟩) (λ_=>[]) (λ_=>[]) (RlP d r):=by
 refine aK _ (aP 171) λB w0=>?_;refine go ?_;intro b2 b3 b4;refine bD (eO (b:=b2)) (h:=?_);refine go ?_;refine eU (p:=r.on=⟨⟨[]⟩⟩) (by show Value.bool _=_;rw[dY]) (λh3=>?_) (λh3=>?_)
 ·refine go ?_;refine ax (Vq (d:=d) (s:=r.on) (vh:=vh) (vs:=vs) (vr:=vr) (vc:=vc) (vu:=vu) hrl) (next:=λy hy=>?_);obtain⟨n,ok⟩:=y;obtain⟨hy1,hy2⟩:=hy;dsimp only at hy1 hy2;refine go ?_;cases ok with
  |false=>
   refine go ?_;exact ae ({r with family:=0},false) (hv:=rfl) (hp:=⟨⟨(λh=>by cases h),λh=>by rcases h.on with h|h;exact absurd h h3;have:=hy1.2 h;cases this⟩,(λh=>by cases h)⟩)
  |true=>
   have hon:r.on=⟨⟨[]⟩⟩\/r.on∈bW d:=.inr (hy1.1 rfl);have hn:=hy2 rfl;subst hn;have hfm:(if r.on=⟨⟨[]⟩⟩then(0:Int)else(dS r.on (bW d):Int))=(dS r.on (bW d):Int):=if_neg h3;refine go ?_;refine ax (Jo (d:=d) (l:=r.names) (vh:=vh) (vs:=vs) (vr:=vr) (vc:=vc) (vu:=vu) (vl:=v1) hs h1) (next:=λz1 hz1=>?_);refine go ?_;refine ax (Jo (d:=d) (l:=r.others) (vh:=vh) (vs:=vs) (vr:=vr) (vc:=vc) (vu:=vu) (vl:=v2) hs h2) (next:=λz2 hz2=>?_);refine go ?_;refine eU (p:=r.bZ=⟨⟨[]⟩⟩) (by show Value.bool _=_;rw[dY]) (λh4=>?_) (λh4=>?_)
   ·refine go ?_;refine ax (Vp (d:=d) (s:=r.bZ) (vh:=vh) (vs:=vs) (vr:=vr) (vc:=vc) (vu:=vu) (by omega)) (next:=λy hy=>?_);obtain⟨n,ok⟩:=y;obtain⟨hy1,hy2⟩:=hy;dsimp only at hy1 hy2;refine go ?_;cases ok with
    |false=>
     refine go ?_;exact ae ({r with family:=(dS r.on (bW d):Int),set:=cond z1 (fZ (bP d) r.names:Int) 0,other:=cond z2 (fZ (bP d) r.others:Int) 0,aG:= -1},false) (hv:=rfl) (hp:=⟨⟨(λh=>by cases h),λh=>by rcases h.bZ with h|h;exact absurd h h4;have:=hy1.2 h;cases this⟩,(λh=>by cases h)⟩)
    |true=>
     have hby:r.bZ=⟨⟨[]⟩⟩\/r.bZ∈dK d:=.inr (hy1.1 rfl);have hn:=hy2 rfl;subst hn;have hcm:(if r.bZ=⟨⟨[]⟩⟩then(-1:Int)else(dS r.bZ (dK d):Int))=(dS r.bZ (dK d):Int):=if_neg h4;refine go ?_;cases z1 with
     |false=>
      refine go ?_;exact ae ({r with family:=(dS r.on (bW d):Int),set:=0,other:=cond z2 (fZ (bP d) r.others:Int) 0,aG:=(dS r.bZ (dK d):Int)},false) (hv:=rfl) (hp:=⟨⟨(λh=>by cases h),λh=>by have:=hz1.2 h.names;cases this⟩,(λh=>by cases h)⟩)
     |true=>
      cases z2 with
      |false=>
       refine go ?_;exact ae ({r with family:=(dS r.on (bW d):Int),set:=(fZ (bP d) r.names:Int),other:=0,aG:=(dS r.bZ (dK d):Int)},false) (hv:=rfl) (hp:=⟨⟨(λh=>by cases h),λh=>by have:=hz2.2 h.others;cases this⟩,(λh=>by cases h)⟩)
      |true=>
       refine go ?_;refine ae ({r with family:=(dS r.on (bW d):Int),set:=(fZ (bP d) r.names:Int),other:=(fZ (bP d) r.others:Int),aG:=(dS r.bZ (dK d):Int)},true) (hv:=rfl) (hp:=⟨⟨λ_=>⟨hon,hz1.1 rfl,hz2.1 rfl,hby⟩,λ_=>rfl⟩,λ_=>?_⟩);unfold mh;rw[hfm,hcm]
   ·have hby:r.bZ=⟨⟨[]⟩⟩\/r.bZ∈dK d:=.inl h4;have hcm:(if r.bZ=⟨⟨[]⟩⟩then(-1:Int)else(dS r.bZ (dK d):Int))= -1:=if_pos h4;refine go ?_;cases z1 with
    |false=>
     refine go ?_;exact ae ({r with family:=(dS r.on (bW d):Int),set:=0,other:=cond z2 (fZ (bP d) r.others:Int) 0,aG:=(-1:Int)},false) (hv:=rfl) (hp:=⟨⟨(λh=>by cases h),λh=>by have:=hz1.2 h.names;cases this⟩,(λh=>by cases h)⟩)
    |true=>
     cases z2 with
     |false=>
      refine go ?_;exact ae ({r with family:=(dS r.on (bW d):Int),set:=(fZ (bP d) r.names:Int),other:=0,aG:=(-1:Int)},false) (hv:=rfl) (hp:=⟨⟨(λh=>by cases h),λh=>by have:=hz2.2 h.others;cases this⟩,(λh=>by cases h)⟩)
     |true=>
      refine go ?_;refine ae ({r with family:=(dS r.on (bW d):Int),set:=(fZ (bP d) r.names:Int),other:=(fZ (bP d) r.others:Int),aG:=(-1:Int)},true) (hv:=rfl) (hp:=⟨⟨λ_=>⟨hon,hz1.1 rfl,hz2.1 rfl,hby⟩,λ_=>rfl⟩,λ_=>?_⟩);unfold mh;rw[hfm,hcm]
 ·have hon:r.on=⟨⟨[]⟩⟩\/r.on∈bW d:=.inl h3;have hfm:(if r.on=⟨⟨[]⟩⟩then(0:Int)else(dS r.on (bW d):Int))=0:=if_pos h3;refine go ?_;refine ax (Jo (d:=d) (l:=r.names) (vh:=vh) (vs:=vs) (vr:=vr) (vc:=vc) (vu:=vu) (vl:=v1) hs h1) (next:=λz1 hz1=>?_);refine go ?_;refine ax (Jo (d:=d) (l:=r.others) (vh:=vh) (vs:=vs) (vr:=vr) (vc:=vc) (vu:=vu) (vl:=v2) hs h2) (next:=λz2 hz2=>?_);refine go ?_;refine eU (p:=r.bZ=⟨⟨[]⟩⟩) (by show Value.bool _=_;rw[dY]) (λh4=>?_) (λh4=>?_)
  ·refine go ?_;refine ax (Vp (d:=d) (s:=r.bZ) (vh:=vh) (vs:=vs) (vr:=vr) (vc:=vc) (vu:=vu) (by omega)) (next:=λy hy=>?_);obtain⟨n,ok⟩:=y;obtain⟨hy1,hy2⟩:=hy;dsimp only at hy1 hy2;refine go ?_;cases ok with
   |false=>
    refine go ?_;exact ae ({r with family:=(0:Int),set:=cond z1 (fZ (bP d) r.names:Int) 0,other:=cond z2 (fZ (bP d) r.others:Int) 0,aG:= -1},false) (hv:=rfl) (hp:=⟨⟨(λh=>by cases h),λh=>by rcases h.bZ with h|h;exact absurd h h4;have:=hy1.2 h;cases this⟩,(λh=>by cases h)⟩)
   |true=>
    have hby:r.bZ=⟨⟨[]⟩⟩\/r.bZ∈dK d:=.inr (hy1.1 rfl);have hn:=hy2 rfl;subst hn;have hcm:(if r.bZ=⟨⟨[]⟩⟩then(-1:Int)else(dS r.bZ (dK d):Int))=(dS r.bZ (dK d):Int):=if_neg h4;refine go ?_;cases z1 with
    |false=>
     refine go ?_;exact ae ({r with family:=(0:Int),set:=0,other:=cond z2 (fZ (bP d) r.others:Int) 0,aG:=(dS r.bZ (dK d):Int)},false) (hv:=rfl) (hp:=⟨⟨(λh=>by cases h),λh=>by have:=hz1.2 h.names;cases this⟩,(λh=>by cases h)⟩)
    |true=>
     cases z2 with
     |false=>
      refine go ?_;exact ae ({r with family:=(0:Int),set:=(fZ (bP d) r.names:Int),other:=0,aG:=(dS r.bZ (dK d):Int)},false) (hv:=rfl) (hp:=⟨⟨(λh=>by cases h),λh=>by have:=hz2.2 h.others;cases this⟩,(λh=>by cases h)⟩)
     |true=>
      refine go ?_;refine ae ({r with family:=(0:Int),set:=(fZ (bP d) r.names:Int),other:=(fZ (bP d) r.others:Int),aG:=(dS r.bZ (dK d):Int)},true) (hv:=rfl) (hp:=⟨⟨λ_=>⟨hon,hz1.1 rfl,hz2.1 rfl,hby⟩,λ_=>rfl⟩,λ_=>?_⟩);unfold mh;rw[hfm,hcm]
  ·have hby:r.bZ=⟨⟨[]⟩⟩\/r.bZ∈dK d:=.inl h4;have hcm:(if r.bZ=⟨⟨[]⟩⟩then(-1:Int)else(dS r.bZ (dK d):Int))= -1:=if_pos h4;refine go ?_;cases z1 with
   |false=>
    refine go ?_;exact ae ({r with family:=(0:Int),set:=0,other:=cond z2 (fZ (bP d) r.others:Int) 0,aG:=(-1:Int)},false) (hv:=rfl) (hp:=⟨⟨(λh=>by cases h),λh=>by have:=hz1.2 h.names;cases this⟩,(λh=>by cases h)⟩)
   |true=>
    cases z2 with
    |false=>
     refine go ?_;exact ae ({r with family:=(0:Int),set:=(fZ (bP d) r.names:Int),other:=0,aG:=(-1:Int)},false) (hv:=rfl) (hp:=⟨⟨(λh=>by cases h),λh=>by have:=hz2.2 h.others;cases this⟩,(λh=>by cases h)⟩)
    |true=>
     refine go ?_;refine ae ({r with family:=(0:Int),set:=(fZ (bP d) r.names:Int),other:=(fZ (bP d) r.others:Int),aG:=(-1:Int)},true) (hv:=rfl) (hp:=⟨⟨λ_=>⟨hon,hz1.1 rfl,hz2.1 rfl,hby⟩,λ_=>rfl⟩,λ_=>?_⟩);unfold mh;rw[hfm,hcm]
theorem agZ{d:bE}{vh vs vr vc vu:Value}(hs:d.symbols.length<=16)(hD:mq d):
 bi Tryz.prog (.func 126) [.agg ⟨gF d vh vs vr vc vu⟩] [] [] [ah fF vs d.symbols,ah eH vr d.regions,ah bM vc d.aJ,ah aY vu d.rules] uT (λ_=>[]) (λy=>[mF (y.e=0) (ah aY y.v (d.rules.map (mh (bP d) (bW d) (dK d))))]) (λy=>y.e=0↔(mV d).Nodup/\∀r∈d.rules,zX (bP d) (bW d) (dK d) r):=by
 have hrl:=hD.regs;have hcl:=hD.jv;have yG:=hD.kG;have hrn:=hD.qM;refine aK _ (aP 126) λB w0=>?_;refine aS (E:=aY) (v:=vu) (xs:=d.rules) (by simp) λa1 c1 e1=>?_;subst e1;refine go ?_;intro b1;refine bD (eO (b:=b1)) (h:=?_);refine go ?_;refine gI aR ?_;refine aZ (λy:Nat×Value=>d.rules.length - y.1) (λy=>[(5,.int .i64 (y.1:Int)),(4,y.2)]) (λy=>[ap aR y.2 ((mV d).take y.1)]) (λ_=>[]) (λy=>y.1<=d.rules.length) (0,.slice none 0 0) (cz _) (hk:=by repeat (first|exact aI.nil|(apply aI.cons;(focus (repeat (first|exact ay.here|apply ay.there)))))) (body:=?_);rintro⟨k,v4⟩ hk;dsimp only at hk⊢;have hil:((mV d).take k).length=k:=by rw[gM];simp[mV];omega
 refine go ?_;refine aA rfl (λh1=>?_) (λh1=>?_)
 ·refine go ?_;refine bz aY (xs:=d.rules) (next:=λ_ _ x _ hx=>?_);have lc:(mV d)[k]? =some x.name:=by unfold mV;rw[eZ,hx];rfl
  refine go ?_;intro CG;refine go ?_;refine fC aR (xs:=(mV d).take k) x.name () (by omega) (next:=λad=>?_);rw[<- bY lc];refine go ?_;exact aQ (k+1,.slice ad (((mV d).take k).length+1) (((mV d).take k).length+1)) (by show d.rules.length - (k+1)<d.rules.length - k;omega) (by show k+1<=_;omega)
 have hkl:k=d.rules.length:=by omega
 subst hkl;rw[show(mV d).take d.rules.length=mV d from sH (by simp[mV])];refine bD (gH (E:=aR) (v:=v4) (xs:=mV d)) (h:=?_);refine go ?_;refine ax (Jn (vl:=v4) (xs:=mV d) (by simp[mV];omega)) (next:=λ_ _=>?_);refine go ?_;refine eU rfl (λh2=>?_) (λh2=>?_)
 ·refine go ?_;refine lU (c:=(161:Int)=0) (f:=ah aY (.slice none 0 0) (d.rules.map (mh (bP d) (bW d) (dK d)))) (by omega) ?_;exact ae ⟨.slice none 0 0,161⟩ (hv:=rfl) (hp:=⟨(λh=>by cases h),λh=>absurd h.1 h2⟩)
 refine go ?_;refine gI aY ?_;generalize hf:mh (bP d) (bW d) (dK d)=f;refine aZ (λy:Nat×Value=>d.rules.length - y.1) (λy=>[(7,.int .i64 (y.1:Int)),(6,y.2)]) (λy=>[ap aY y.2 ((d.rules.map f).take y.1)]) (λ_=>[]) (λy=>y.1<=d.rules.length/\∀r∈d.rules.take y.1,zX (bP d) (bW d) (dK d) r) (0,.slice none 0 0) ⟨cz _,by simp⟩ (hk:=by repeat (first|exact aI.nil|(apply aI.cons;(focus (repeat (first|exact ay.here|apply ay.there)))))) (body:=?_);rintro⟨k,v6⟩ ⟨hk,hall⟩;dsimp only at hk hall⊢;have hil:((d.rules.map f).take k).length=k:=by rw[gM,bR];omega
 refine go ?_;refine aA rfl (λh3=>?_) (λh3=>?_)
 ·refine go ?_;refine bz aY (xs:=d.rules) (next:=λ_ _ x (vx:Value×Value) hx=>?_);have hxm:(d.rules.map f)[k]? =some (f x):=by rw[eZ,hx];rfl
  have hxl:=hrn x (bG hx);refine go ?_;intro b8;refine ax (agY (d:=d) (r:=x) (vh:=vh) (vs:=vs) (vr:=vr) (vc:=vc) (vu:=.slice a1 d.rules.length c1) (v1:=vx.1) (v2:=vx.2) hs hrl hcl hxl.1 hxl.2) (next:=λy hy=>?_);obtain⟨z,ok⟩:=y;obtain⟨hy1,hy2⟩:=hy;dsimp only at hy1 hy2;refine go ?_;cases ok with
  |false=>
   refine go ?_;refine lU (c:=(160:Int)=0) (f:=ah aY (.slice none 0 0) (d.rules.map f)) (by omega) ?_;exact ae ⟨.slice none 0 0,160⟩ (hv:=rfl) (hp:=⟨(λh=>by cases h),λh=>by have:=hy1.2 (h.2 x (bG hx));cases this⟩)
  |true=>
   have hz:=hy2 rfl;rw[hf]at hz;have hzn:z.names=x.names/\z.others=x.others:=by rw[hz,<- hf];exact⟨rfl,rfl⟩
   refine go ?_;intro b54;refine go ?_;refine eX (ah aR vx.1 z.names) (λw hw=>by rw[hzn.1];exact hw (ah aR vx.1 x.names) (by simp)) ?_;refine eX (ah aR vx.2 z.others) (λw hw=>by rw[hzn.2];exact hw (ah aR vx.2 x.others) (by simp)) ?_;refine fC aY (xs:=(d.rules.map f).take k) z vx (by omega) (next:=λad=>?_);rw[hz,<- bY hxm];refine go ?_;refine aQ (k+1,.slice ad (((d.rules.map f).take k).length+1) (((d.rules.map f).take k).length+1)) (by show d.rules.length - (k+1)<d.rules.length - k;omega) ⟨by show k+1<=_;omega,?_⟩;show∀c∈d.rules.take (k+1),zX (bP d) (bW d) (dK d) c;rw[bY hx];intro c hc;rcases dV.1 hc with hc|hc
   ·exact hall c hc
   ·rw[bH.1 hc];exact hy1.1 rfl
 have hkl:k=d.rules.length:=by omega
 subst hkl;rw[bK]at hall;rw[show(d.rules.map f).take d.rules.length=d.rules.map f from sH (by simp)];refine bD (gH (E:=aY) (v:=v6) (xs:=d.rules.map f)) (h:=?_);refine go ?_;refine kX (c:=(0:Int)=0) (f:=ah aY v6 (d.rules.map f)) (by simp) ?_;exact ae ⟨v6,0⟩ (hv:=rfl) (hp:=⟨λ_=>⟨h2,hall⟩,λ_=>rfl⟩)
theorem Vr{d:bE}{vh vs vr vc vu:Value}(hD:mq d):
 bi Tryz.prog (.func 89) [.agg ⟨gF d vh vs vr vc vu⟩] [] [] (kT d vh vs vr vc vu) (qL d vh vs vr) (λ_=>[]) (nW d) (Ag d):=by
 have hsl:=hD.dP;have hrl:=hD.regs;have hcl:=hD.jv;have yG:=hD.kG;have hgl:iI.length=8:=rfl;refine aK _ (aP 89) λB w0=>?_;refine aS (E:=fF) (v:=vs) (xs:=d.symbols) (by simp) λa1 c1 e1=>?_;subst e1;refine aS (E:=eH) (v:=vr) (xs:=d.regions) (by simp) λa2 c2 e2=>?_;subst e2;refine go ?_;intro b1 b2;refine go ?_;refine aA rfl (λhs=>?_) (λhs=>?_)
 ·refine go ?_;exact ae ⟨false,2,.nilFunc,.nilFunc⟩ (hv:=rfl) (hp:=⟨(λh=>by cases h),λ_=>⟨by show(2:Int)≠0;omega,λh=>by have:=h.dP;omega⟩⟩)
 refine go ?_;refine gI aR ?_;refine aZ (λy:Nat×Value=>d.symbols.length - y.1) (λy=>[(5,.int .i64 (y.1:Int)),(4,y.2)]) (λy=>[ap aR y.2 ((bP d).take y.1)]) (λ_=>[]) (λy=>y.1<=d.symbols.length) (0,.slice none 0 0) (cz _) (hk:=by repeat (first|exact aI.nil|(apply aI.cons;(focus (repeat (first|exact ay.here|apply ay.there)))))) (body:=?_);rintro⟨k,v4⟩ hk;dsimp only at hk⊢;have hil:((bP d).take k).length=k:=by rw[gM];simp[bP];omega
 refine go ?_;refine aA rfl (λh1=>?_) (λh1=>?_)
 ·refine go ?_;refine bz fF (xs:=d.symbols) (next:=λ_ _ x _ hx=>?_);have lc:(bP d)[k]? =some x.name:=by unfold bP;rw[eZ,hx];rfl
  refine go ?_;intro CG;refine go ?_;refine fC aR (xs:=(bP d).take k) x.name () (by omega) (next:=λad=>?_);rw[<- bY lc];refine go ?_;exact aQ (k+1,.slice ad (((bP d).take k).length+1) (((bP d).take k).length+1)) (by show d.symbols.length - (k+1)<d.symbols.length - k;omega) (by show k+1<=_;omega)
 have hkl:k=d.symbols.length:=by omega
 subst hkl;rw[show(bP d).take d.symbols.length=bP d from sH (by simp[bP])];refine bD (gH (E:=aR) (v:=v4) (xs:=bP d)) (h:=?_);refine go ?_;refine ax (Jn (vl:=v4) (xs:=bP d) (by simp[bP];omega)) (next:=λ_ _=>?_);refine go ?_;refine eU rfl (λk1=>?_) (λk1=>?_)
 ·refine go ?_;exact ae ⟨false,161,.nilFunc,.nilFunc⟩ (hv:=rfl) (hp:=⟨(λh=>by cases h),λ_=>⟨by show(161:Int)≠0;omega,λh=>k1 h.SQ⟩⟩)
 refine go ?_;refine ax Vo (next:=λag _=>?_);refine go ?_;refine aZ (λy:Nat×Value=>d.regions.length - y.1) (λy=>[(7,.int .i64 (y.1:Int)),(6,y.2)]) (λy=>[ap aR y.2 (iI++(nZ d).take y.1)]) (λ_=>[]) (λy=>y.1<=d.regions.length) (0,.slice ag iI.length iI.length) (cz _) (hk:=by rw[List.take_zero,gy];repeat (first|exact aI.nil|(apply aI.cons;(focus (repeat (first|exact ay.here|apply ay.there)))))) (body:=?_);rintro⟨k,v6⟩ hk;dsimp only at hk⊢;have hil:(iI++(nZ d).take k).length=8+k:=by rw[fA,gM,hgl];simp[nZ];omega
 refine go ?_;refine aA rfl (λh1=>?_) (λh1=>?_)
 ·refine go ?_;refine bz eH (xs:=d.regions) (next:=λ_ _ x (_:Value) hx=>?_);have lc:(nZ d)[k]? =some x.name:=by unfold nZ;rw[eZ,hx];rfl
  refine go ?_;intro CG;refine go ?_;refine fC aR (xs:=iI++(nZ d).take k) x.name () (by omega) (next:=λad=>?_);rw[fE,<- bY lc];refine go ?_;exact aQ (k+1,.slice ad ((iI++(nZ d).take k).length+1) ((iI++(nZ d).take k).length+1)) (by show d.regions.length - (k+1)<d.regions.length - k;omega) (by show k+1<=_;omega)
 have hkl:k=d.regions.length:=by omega
 subst hkl;rw[show iI++(nZ d).take d.regions.length=bW d from by rw[sH (by simp[nZ])];rfl];refine bD (gH (E:=aR) (v:=v6) (xs:=bW d)) (h:=?_);refine go ?_;refine ax (Jn (vl:=v6) (xs:=bW d) (by simp[bW];omega)) (next:=λ_ _=>?_);refine go ?_;refine eU rfl (λk2=>?_) (λk2=>?_)
 ·refine go ?_;exact ae ⟨false,161,.nilFunc,.nilFunc⟩ (hv:=rfl) (hp:=⟨(λh=>by cases h),λ_=>⟨by show(161:Int)≠0;omega,λh=>k2 h.SS⟩⟩)
 refine go ?_;refine ax (agV (d:=d) (vh:=vh) (vs:=.slice a1 d.symbols.length c1) (vr:=.slice a2 d.regions.length c2) (vc:=vc) (vu:=vu) hrl hcl) (next:=λy hy=>?_);obtain⟨wc,e⟩:=y;dsimp only at hy⊢;refine go ?_;refine aA rfl (λk3=>?_) (λk3=>?_)
 ·refine go ?_;exact ae ⟨false,e,.nilFunc,.nilFunc⟩ (hv:=rfl) (hp:=⟨(λh=>by cases h),λ_=>⟨k3,λh=>k3 (hy.2 ⟨h.SV,h.Mt⟩)⟩⟩)
 have he:e=0:=iO.1 k3;subst he;obtain⟨p1,p2⟩:=hy.1 rfl;clear hy k3;refine eX (ah bM wc (Kd.bF d).aJ) (λw hw=>hw (mF ((0:Int)=0) (ah bM wc (d.aJ.map (lm (bW d))))) (by simp) rfl) ?_;refine go ?_;refine ax (agZ (d:=d) (vh:=vh) (vs:=.slice a1 d.symbols.length c1) (vr:=.slice a2 d.regions.length c2) (vc:=vc) (vu:=vu) (by omega) hD) (next:=λy hy=>?_);obtain⟨wu,e⟩:=y;dsimp only at hy⊢;refine go ?_;refine aA rfl (λk3=>?_) (λk3=>?_)
 ·refine go ?_;exact ae ⟨false,e,.nilFunc,.nilFunc⟩ (hv:=rfl) (hp:=⟨(λh=>by cases h),λ_=>⟨k3,λh=>k3 (hy.2 ⟨h.SX,h.uJ⟩)⟩⟩)
 have he:e=0:=iO.1 k3;subst he;obtain⟨p3,p4⟩:=hy.1 rfl;clear hy k3;refine eX (ah aY wu (Kd.bF d).rules) (λw hw=>hw (mF ((0:Int)=0) (ah aY wu (d.rules.map (mh (bP d) (bW d) (dK d))))) (by simp) rfl) ?_;refine aS (E:=bM) (v:=wc) (xs:=(Kd.bF d).aJ) (by simp) λa3 c3 e3=>?_;subst e3;refine aS (E:=aY) (v:=wu) (xs:=(Kd.bF d).rules) (by simp) λa4 c4 e4=>?_;subst e4;refine go ?_;refine ae ⟨true,0,.slice a3 (Kd.bF d).aJ.length c3,.slice a4 (Kd.bF d).rules.length c4⟩ (hv:=rfl) (hp:=⟨λ_=>⟨rfl,⟨by omega,k1,k2,p1,p2,p3,p4⟩⟩,(λh=>by cases h)⟩) (hF:=?_);show Sub [ah bM _ (Kd.bF d).aJ,ah aY _ (Kd.bF d).rules] _;exact .cons (by simp) (.cons (by simp) .nil)
