/-
  The reference's names: which names are twice; where a name stands; sets of symbols.
-/
import Derived.Test.YtoohgkkmdnbnfaaGreatDoorLibCD
set_option linter.all false
set_option maxRecDepth 10000
set_option maxHeartbeats 4000000
namespace Go.Proofs.YtoohgkkmdnbnfaaGreatDoor
open Go.Ideal Kd
noncomputable def UN:gP:=⟨2,[(.tmp 0)],(.seq (.ops [0] [⟨⟨(some 0),none,(.mq (.const (.slice none 0 0)))⟩,[]⟩]) (.seq (.ops [1,0] [⟨⟨(some 1),none,(.uY 9 8 [(.string ⟨⟨[]⟩⟩),(.string ⟨⟨[]⟩⟩),(.string ⟨⟨[]⟩⟩),(.string ⟨⟨[]⟩⟩),(.string ⟨⟨[]⟩⟩),(.string ⟨⟨[]⟩⟩),(.string ⟨⟨[]⟩⟩),(.string ⟨⟨[]⟩⟩)] [⟨0,⟨1,(.const (.string ⟨⟨[99,101,108,108,115]⟩⟩))⟩⟩,⟨1,⟨1,(.const (.string ⟨⟨[114,111,119,115]⟩⟩))⟩⟩,⟨2,⟨1,(.const (.string ⟨⟨[99,111,108,117,109,110,115]⟩⟩))⟩⟩,⟨3,⟨1,(.const (.string ⟨⟨[100,105,97,103,111,110,97,108,115]⟩⟩))⟩⟩,⟨4,⟨1,(.const (.string ⟨⟨[97,114,111,117,110,100]⟩⟩))⟩⟩,⟨5,⟨1,(.const (.string ⟨⟨[110,101,97,114]⟩⟩))⟩⟩,⟨6,⟨1,(.const (.string ⟨⟨[112,97,105,114,115]⟩⟩))⟩⟩,⟨7,⟨1,(.const (.string ⟨⟨[97,108,108]⟩⟩))⟩⟩])⟩,[]⟩,⟨⟨(some 0),none,(.mq (.tmp 1))⟩,[]⟩]) .ret))⟩
theorem afY:mF Tryz.prog 124=some UN:=by kernel_rfl
theorem ER{s:ByteArray}:∀{l:List ByteArray} {k:Nat},l[k]? =some s->s∉l.take k->dU s l=k
 |[],k,h,_=>by simp at h
 |a::l,0,h,_=>by
  have h:a=s:=by simpa using h
  unfold dU;rw[if_pos h.symm]
 |a::l,k+1,h,hn=>by
  have h:l[k]? =some s:=by simpa using h
  rw[List.take_succ_cons,dH,not_or]at hn;unfold dU;rw[if_neg hn.1,ER h hn.2]
theorem UO{α:Type}{xs:List α}{k:Nat}{x:α}(hx:xs[k]? =some x):(xs.take (k+1)).Nodup↔(xs.take k).Nodup/\x∉xs.take k:=by
 rw[bU hx,iP];constructor
 ·rintro⟨h1,_,h2⟩;exact⟨h1,λh=>h2 x h x (bI.2 rfl) rfl⟩
 ·rintro⟨h1,h2⟩;exact⟨h1,by simp,λa ha b hb e=>h2 (by rw[bI.1 hb]at e;rw[<- e];exact ha)⟩
theorem Jd{vl:Value}{xs:List ByteArray}(hl:xs.length<9223372036854775808):cK Tryz.prog 123 [vl] [ah aT vl xs] (.bool (!decide xs.Nodup)):=by
 refine aI _ (aO 123) λB w0=>?_;refine aS (E:=aT) (v:=vl) (xs:=xs) (by simp) λa1 c1 e1=>?_;subst e1;refine go ?_;refine aZ (λk=>xs.length - k) (λk:Nat=>[(3,.int .i64 (k:Int))]) (λ_=>[]) (λ_=>[]) (λk=>k<=xs.length/\(xs.take k).Nodup) 0 ⟨by omega,by simp⟩ (body:=?_);rintro k ⟨hk,hnd⟩;refine go ?_;refine ay rfl (λh1=>?_) (λh1=>?_)
 ·have hx:xs[k]? =some (xs[k]'(by omega)):=cO _;generalize xs[k]'(by omega)=x at hx;refine go ?_;refine aZ (λj=>k - j) (λj:Nat=>[(4,.int .i64 (j:Int))]) (λ_=>[]) (λ_=>[]) (λj=>j<=k/\x∉xs.take j) 0 ⟨by omega,by simp⟩ (body:=?_);rintro j ⟨hj,hno⟩;refine go ?_;refine ay rfl (λh2=>?_) (λh2=>?_)
  ·refine go ?_;refine bi aT (xs:=xs) (next:=λ_ _ x' (_:Unit) hx'=>?_);cases hx.symm.trans hx';refine go ?_;refine bi aT (xs:=xs) (next:=λ_ _ y (_:Unit) hy=>?_);refine go ?_;refine jZ rfl (λh3=>?_) (λh3=>?_)
   ·rw[dW]at h3;have h3:=gX h3;subst h3;refine go ?_;refine ae () (hv:=?_) (hp:=trivial);rw[aU (λhn=>by
     have h4:(xs.take (k+1)).Nodup:=hn.sublist (Om _ _);rw[UO hx]at h4;exact h4.2 (tY.2 ⟨j,by rw[tV,if_pos (by omega)];exact hy⟩))];rfl
   ·rw[dW]at h3;have h3:=mQ h3;refine go ?_;refine aP (j+1) (by omega) ⟨by omega,?_⟩;rw[bU hy,dZ,not_or];exact⟨hno,by simp;exact h3⟩
  have hjk:j=k:=by omega
  subst hjk;refine go ?_;exact aP (j+1) (by omega) ⟨by omega,(UO hx).2 ⟨hnd,hno⟩⟩
 have hkl:k=xs.length:=by omega
 subst hkl;rw[bK]at hnd;refine go ?_;refine ae () (hv:=?_) (hp:=trivial);rw[dS hnd];rfl
theorem UQ:bn Tryz.prog (.func 124) [] [] [] [] (λa:Option Addr=>.slice a iM.length iM.length) (λa=>[ap aT (.slice a iM.length iM.length) iM]) (λ_=>[]) (λ_=>True):=by
 refine aI UN afY λB w0=>?_;refine go ?_;intro b;refine go ?_;refine sW (b:=b) (m:=iM.length) (f:=0) aT (aL:=iM.map λs=>(s,())) rfl (.inl rfl) ?_ (hk:=az.here);refine abC (E:=aT) (aL:=iM.map λs=>(s,())) (by decide) ?_ (λw hw p hp f hf=>by cases hf);show R _ _ _ [ap aT (.slice (some ⟨b,0,some 0⟩) iM.length iM.length) iM] _;exact ae (some ⟨b,0,some 0⟩) (hv:=rfl) (hp:=trivial)
def NJ(s:ByteArray)(l:List ByteArray)(y:Nat×Bool):Prop:=(y.2=true↔s∈l)/\(y.2=true->dU s l=y.1)
abbrev NK(y:Nat×Bool):Value:=.tuple ⟨[.int .i64 (y.1:Int),.bool y.2]⟩
theorem afZ{d:bF}{s:ByteArray}{vh vs vr vc vu:Value}(hl:d.symbols.length<9223372036854775808):bn Tryz.prog (.func 269) [.agg ⟨gD d vh vs vr vc vu⟩,.string s] [] [] [ah fq vs d.symbols] NK (λ_=>[]) (λ_=>[]) (NJ s (bO d)):=by
 refine aI _ (aO 269) λB w0=>?_;refine aS (E:=fq) (v:=vs) (xs:=d.symbols) (by simp) λa1 c1 e1=>?_;subst e1;refine go ?_;intro b1;refine go ?_;refine aZ (λk=>d.symbols.length - k) (λk:Nat=>[(6,.int .i64 (k:Int))]) (λ_=>[]) (λ_=>[]) (λk=>k<=d.symbols.length/\s∉(bO d).take k) 0 ⟨by omega,by simp⟩ (body:=?_);rintro k ⟨hk,hno⟩;refine go ?_;refine ay rfl (λh1=>?_) (λh1=>?_)
 ·refine go ?_;refine bi fq (xs:=d.symbols) (next:=λ_ _ x _ hx=>?_);have kS:(bO d)[k]? =some x.name:=by unfold bO;rw[fA,hx];rfl
  refine go ?_;refine jZ rfl (λh2=>?_) (λh2=>?_)
  ·rw[dW]at h2;have h2:=gX h2;subst h2;refine go ?_;exact ae (k,true) (hv:=rfl) (hp:=⟨⟨λ_=>bH kS,λ_=>rfl⟩,λ_=>ER kS hno⟩)
  ·rw[dW]at h2;have h2:=mQ h2;refine go ?_;refine aP (k+1) (by omega) ⟨by omega,?_⟩;rw[bU kS,dZ,not_or];exact⟨hno,by simp;exact λe=>h2 e.symm⟩
 have hkl:k=d.symbols.length:=by omega
 subst hkl;rw[show(bO d).take d.symbols.length=bO d from uX (by simp[bO])]at hno;refine go ?_;exact ae (0,false) (hv:=rfl) (hp:=⟨⟨(λh=>by cases h),λh=>absurd h hno⟩,(λh=>by cases h)⟩)
theorem UR{d:bF}{s:ByteArray}{vh vs vr vc vu:Value}(hl:d.aJ.length<9223372036854775808):bn Tryz.prog (.func 239) [.agg ⟨gD d vh vs vr vc vu⟩,.string s] [] [] [ah bM vc d.aJ] NK (λ_=>[]) (λ_=>[]) (NJ s (dI d)):=by
 refine aI _ (aO 239) λB w0=>?_;refine aS (E:=bM) (v:=vc) (xs:=d.aJ) (by simp) λa1 c1 e1=>?_;subst e1;refine go ?_;intro b1;refine go ?_;refine aZ (λk=>d.aJ.length - k) (λk:Nat=>[(6,.int .i64 (k:Int))]) (λ_=>[]) (λ_=>[]) (λk=>k<=d.aJ.length/\s∉(dI d).take k) 0 ⟨by omega,by simp⟩ (body:=?_);rintro k ⟨hk,hno⟩;refine go ?_;refine ay rfl (λh1=>?_) (λh1=>?_)
 ·refine go ?_;refine bi bM (xs:=d.aJ) (next:=λ_ _ x _ hx=>?_);have kS:(dI d)[k]? =some x.name:=by unfold dI;rw[fA,hx];rfl
  refine go ?_;refine jZ rfl (λh2=>?_) (λh2=>?_)
  ·rw[dW]at h2;have h2:=gX h2;subst h2;refine go ?_;exact ae (k,true) (hv:=rfl) (hp:=⟨⟨λ_=>bH kS,λ_=>rfl⟩,λ_=>ER kS hno⟩)
  ·rw[dW]at h2;have h2:=mQ h2;refine go ?_;refine aP (k+1) (by omega) ⟨by omega,?_⟩;rw[bU kS,dZ,not_or];exact⟨hno,by simp;exact λe=>h2 e.symm⟩
 have hkl:k=d.aJ.length:=by omega
 subst hkl;rw[show(dI d).take d.aJ.length=dI d from uX (by simp[dI])]at hno;refine go ?_;exact ae (0,false) (hv:=rfl) (hp:=⟨⟨(λh=>by cases h),λh=>absurd h hno⟩,(λh=>by cases h)⟩)
def nS(d:bF):List ByteArray:=d.regions.map (·.name)
theorem af0{s:ByteArray}{a b:List ByteArray}(h:s∉a):dU s (a++b)=a.length+dU s b:=by
 induction a with
 |nil=>simp
 |cons x a ih=>
  rw[dH,not_or]at h;show(if s=x then 0 else dU s (a++b)+1)=_;rw[if_neg h.1,ih h.2,o8];omega
theorem af1{s:ByteArray}{a b:List ByteArray}(h:s∈a):dU s (a++b)=dU s a:=by
 induction a with
 |nil=>cases h
 |cons x a ih=>
  show(if s=x then 0 else dU s (a++b)+1)=if s=x then 0 else dU s a+1
  by_cases e:s=x
  ·rw[if_pos e,if_pos e]
  ·rw[if_neg e,if_neg e,ih ((dH.1 h).resolve_left e)]
theorem UT{d:bF}{s:ByteArray}{vh vs vr vc vu:Value}(hl:d.regions.length<=4096):bn Tryz.prog (.func 170) [.agg ⟨gD d vh vs vr vc vu⟩,.string s] [] [] [ah eG vr d.regions] NK (λ_=>[]) (λ_=>[]) (NJ s (bV d)):=by
 have hgl:iM.length=8:=rfl;refine aI _ (aO 170) λB w0=>?_;refine aS (E:=eG) (v:=vr) (xs:=d.regions) (by simp) λa1 c1 e1=>?_;subst e1;refine go ?_;intro b1;refine go ?_;refine ax UQ (next:=λag _=>?_);refine bA (fV (E:=aT) (v:=.slice ag iM.length iM.length) (xs:=iM)) (h:=?_);refine go ?_;refine aZ (λk=>iM.length - k) (λk:Nat=>[(7,.int .i64 (k:Int))]) (λ_=>[]) (λ_=>[]) (λk=>k<=iM.length/\s∉iM.take k) 0 ⟨by omega,by simp⟩ (body:=?_);rintro k ⟨hk,hno⟩;refine go ?_;refine ay rfl (λh1=>?_) (λh1=>?_)
 ·refine go ?_;refine bi aT (xs:=iM) (next:=λ_ _ x (_:Unit) hx=>?_);refine go ?_;refine jZ rfl (λh2=>?_) (λh2=>?_)
  ·rw[dW]at h2;have h2:=gX h2;subst h2;refine go ?_;exact ae (k,true) (hv:=rfl) (hp:=⟨⟨λ_=>kF _ (bH hx),λ_=>rfl⟩,λ_=>(af1 (bH hx)).trans (ER hx hno)⟩)
  ·rw[dW]at h2;have h2:=mQ h2;refine go ?_;refine aP (k+1) (by omega) ⟨by omega,?_⟩;rw[bU hx,dZ,not_or];exact⟨hno,by simp;exact λe=>h2 e.symm⟩
 have hkl:k=iM.length:=by omega
 subst hkl;rw[bK]at hno;have Dj:=hno;clear hno hk h1;refine go ?_;refine aZ (λk=>d.regions.length - k) (λk:Nat=>[(8,.int .i64 (k:Int))]) (λ_=>[]) (λ_=>[]) (λk=>k<=d.regions.length/\s∉(nS d).take k) 0 ⟨by omega,by simp⟩ (body:=?_);rintro k ⟨hk,hno⟩;refine go ?_;refine ay rfl (λh1=>?_) (λh1=>?_)
 ·refine go ?_;refine bi eG (xs:=d.regions) (next:=λ_ _ x (_:Value) hx=>?_);have kS:(nS d)[k]? =some x.name:=by unfold nS;rw[fA,hx];rfl
  refine go ?_;refine jZ rfl (λh2=>?_) (λh2=>?_)
  ·rw[dW]at h2;have h2:=gX h2;subst h2;refine go ?_;refine ae (8+k,true) (hv:=?_) (hp:=⟨⟨λ_=>o9 _ (bH kS),λ_=>rfl⟩,λ_=>(af0 Dj).trans ?_⟩)
   ·show Value.tuple ⟨[.int .i64 (8+(k:Int)),.bool true]⟩=.tuple ⟨[.int .i64 ((8+k:Nat):Int),.bool true]⟩;rw[show((8+k:Nat):Int)=8+(k:Int)by omega]
   ·have:=ER kS hno;unfold nS at this;rw[this];rfl
  ·rw[dW]at h2;have h2:=mQ h2;refine go ?_;refine aP (k+1) (by omega) ⟨by omega,?_⟩;rw[bU kS,dZ,not_or];exact⟨hno,by simp;exact λe=>h2 e.symm⟩
 have hkl:k=d.regions.length:=by omega
 subst hkl;rw[show(nS d).take d.regions.length=nS d from uX (by simp[nS])]at hno;refine go ?_;exact ae (0,false) (hv:=rfl) (hp:=⟨⟨(λh=>by cases h),λh=>by
  rcases dZ.1 h with h|h
  ·exact absurd h Dj
  ·exact absurd h hno⟩,(λh=>by cases h)⟩)
theorem Je{d:bF}{l:List ByteArray}{vh vs vr vc vu vl:Value}(hs:d.symbols.length<=16)(hl:l.length<9223372036854775808):
 bn Tryz.prog (.func 238) [.agg ⟨gD d vh vs vr vc vu⟩,vl] [] [] [ah fq vs d.symbols,ah aT vl l] (λy:Bool=>.tuple ⟨[.int .i64 (cond y (gp (bO d) l:Int) 0),.bool y]⟩) (λ_=>[]) (λ_=>[]) (λy=>y=true↔∀s∈l,s∈bO d):=by
 have hsl:(bO d).length<=16:=by simp[bO];exact hs
 refine aI _ (aO 238) λB w0=>?_;refine aS (E:=aT) (v:=vl) (xs:=l) (by simp) λa1 c1 e1=>?_;subst e1;refine go ?_;intro b1;refine go ?_;refine aZ (λk=>l.length - k) (λk:Nat=>[(7,.int .i64 (k:Int)),(6,.int .i64 (gp (bO d) (l.take k):Int))]) (λ_=>[]) (λ_=>[]) (λk=>k<=l.length/\∀s∈l.take k,s∈bO d) 0 ⟨bY _,by simp⟩ (body:=?_);rintro k ⟨hk,hall⟩;refine go ?_;refine ay rfl (λh1=>?_) (λh1=>?_)
 ·refine go ?_;refine bi aT (xs:=l) (next:=λ_ _ x (_:Unit) hx=>?_);refine go ?_;refine ax (afZ (d:=d) (s:=x) (vh:=vh) (vs:=vs) (vr:=vr) (vc:=vc) (vu:=vu) (by omega)) (next:=λy hy=>?_);obtain⟨n,ok⟩:=y;obtain⟨hy1,hy2⟩:=hy;dsimp only at hy1 hy2;refine go ?_;cases ok with
  |false=>
   refine go ?_;exact ae false (hv:=rfl) (hp:=⟨(λh=>by cases h),λh=>by have:=hy1.2 (h x (bH hx));cases this⟩)
  |true=>
   have hm:=hy1.1 rfl;have hp:=xX hm;have hn:=hy2 rfl;subst hn;have h2:1<<<dU x (bO d)<2^16:=by
    rw[Nat.shiftLeft_eq,yO];exact Fv (by omega) (by omega)
   have h3:=MH hsl (l.take k) 0 hall (by omega);refine go ?_;refine(fJ rfl rfl (Hl (a:=1) (b:=dU x (bO d)) rfl rfl (by omega) (by omega))).h ?_;refine(fJ rfl rfl (QZ (a:=gp (bO d) (l.take k)) (b:=1<<<dU x (bO d)) rfl rfl (Nat.lt_trans h3 (by omega)) (by omega))).h ?_;refine go ?_;refine aP (k+1) (by omega) ⟨by omega,λs hs'=>?_⟩ (hl:=⟨rfl,by rw[TP hx];rfl,by repeat (first|exact trivial|refine⟨rfl,?_⟩)⟩);rw[mo,hx]at hs';rcases dZ.1 hs' with h|h
   ·exact hall s h
   ·have:s=x:=by simpa using h
    rw[this];exact hm
 have hkl:k=l.length:=by omega
 subst hkl;rw[bK]at hall⊢;refine go ?_;exact ae true (hv:=rfl) (hp:=⟨λ_=>hall,λ_=>rfl⟩)
theorem af2{d:bF}{vh vs vr vc vu:Value}(hrl:d.regions.length<=4096)(hcl:d.aJ.length<=4096):
 bn Tryz.prog (.func 125) [.agg ⟨gD d vh vs vr vc vu⟩] [] [] [ah eG vr d.regions,ah bM vc d.aJ] uO (λ_=>[]) (λy=>[l9 (y.e=0) (ah bM y.v (d.aJ.map (kU (bV d))))]) (λy=>y.e=0↔(dI d).Nodup/\∀c∈d.aJ,c.on∈bV d):=by
 refine aI _ (aO 125) λB w0=>?_;refine aS (E:=bM) (v:=vc) (xs:=d.aJ) (by simp) λa1 c1 e1=>?_;subst e1;refine go ?_;intro b1;refine bA (eD (b:=b1)) (h:=?_);refine go ?_;refine fZ aT ?_;refine aZ (λy:Nat×Value=>d.aJ.length - y.1) (λy=>[(5,.int .i64 (y.1:Int)),(4,y.2)]) (λy=>[ap aT y.2 ((dI d).take y.1)]) (λ_=>[]) (λy=>y.1<=d.aJ.length) (0,.slice none 0 0) (bY _) (hk:=by repeat (first|exact aG.nil|(apply aG.cons;(focus (repeat (first|exact az.here|apply az.there)))))) (body:=?_);rintro⟨k,v4⟩ hk;dsimp only at hk⊢;have hil:((dI d).take k).length=k:=by rw[gW];simp[dI];omega
 refine go ?_;refine ay rfl (λh1=>?_) (λh1=>?_)
 ·refine go ?_;refine bi bM (xs:=d.aJ) (next:=λ_ _ x _ hx=>?_);have kS:(dI d)[k]? =some x.name:=by unfold dI;rw[fA,hx];rfl
  refine go ?_;intro NL;refine go ?_;refine eO aT (xs:=(dI d).take k) x.name () (by omega) (next:=λad=>?_);rw[<- bU kS];refine go ?_;exact aP (k+1,.slice ad (((dI d).take k).length+1) (((dI d).take k).length+1)) (by show d.aJ.length - (k+1)<d.aJ.length - k;omega) (by show k+1<=_;omega)
 have hkl:k=d.aJ.length:=by omega
 subst hkl;rw[show(dI d).take d.aJ.length=dI d from uX (by simp[dI])];refine bA (fV (E:=aT) (v:=v4) (xs:=dI d)) (h:=?_);refine go ?_;refine ax (Jd (vl:=v4) (xs:=dI d) (by simp[dI];omega)) (next:=λ_ _=>?_);refine go ?_;refine eF rfl (λh2=>?_) (λh2=>?_)
 ·refine go ?_;refine lK (c:=(161:Int)=0) (f:=ah bM (.slice none 0 0) (d.aJ.map (kU (bV d)))) (by omega) ?_;exact ae ⟨.slice none 0 0,161⟩ (hv:=rfl) (hp:=⟨(λh=>by cases h),λh=>absurd h.1 h2⟩)
 refine go ?_;refine fZ bM ?_;refine aZ (λy:Nat×Value=>d.aJ.length - y.1) (λy=>[(7,.int .i64 (y.1:Int)),(6,y.2)]) (λy=>[ap bM y.2 ((d.aJ.map (kU (bV d))).take y.1)]) (λ_=>[]) (λy=>y.1<=d.aJ.length/\∀c∈d.aJ.take y.1,c.on∈bV d) (0,.slice none 0 0) ⟨bY _,by simp⟩ (hk:=by repeat (first|exact aG.nil|(apply aG.cons;(focus (repeat (first|exact az.here|apply az.there)))))) (body:=?_);rintro⟨k,v6⟩ ⟨hk,hall⟩;dsimp only at hk hall⊢;have hil:((d.aJ.map (kU (bV d))).take k).length=k:=by rw[gW,cz];omega
 refine go ?_;refine ay rfl (λh3=>?_) (λh3=>?_)
 ·refine go ?_;refine bi bM (xs:=d.aJ) (next:=λ_ _ x (_:Unit) hx=>?_);have hxm:(d.aJ.map (kU (bV d)))[k]? =some (kU (bV d) x):=by rw[fA,hx];rfl
  refine go ?_;intro b8;refine go ?_;refine ax (UT (d:=d) (s:=x.on) (vh:=vh) (vs:=vs) (vr:=vr) (vc:=.slice a1 d.aJ.length c1) (vu:=vu) hrl) (next:=λy hy=>?_);obtain⟨n,ok⟩:=y;obtain⟨hy1,hy2⟩:=hy;dsimp only at hy1 hy2;refine go ?_;cases ok with
  |false=>
   refine go ?_;refine lK (c:=(160:Int)=0) (f:=ah bM (.slice none 0 0) (d.aJ.map (kU (bV d)))) (by omega) ?_;exact ae ⟨.slice none 0 0,160⟩ (hv:=rfl) (hp:=⟨(λh=>by cases h),λh=>by have:=hy1.2 (h.2 x (bH hx));cases this⟩)
  |true=>
   have hn:=hy2 rfl;subst hn;refine go ?_;intro b54;refine go ?_;refine eO bM (xs:=(d.aJ.map (kU (bV d))).take k) (kU (bV d) x) () (by omega) (next:=λad=>?_);rw[<- bU hxm];refine go ?_;refine aP (k+1,.slice ad (((d.aJ.map (kU (bV d))).take k).length+1) (((d.aJ.map (kU (bV d))).take k).length+1)) (by show d.aJ.length - (k+1)<d.aJ.length - k;omega) ⟨by show k+1<=_;omega,?_⟩;show∀c∈d.aJ.take (k+1),c.on∈bV d;rw[bU hx];intro c hc;rcases dZ.1 hc with hc|hc
   ·exact hall c hc
   ·rw[bI.1 hc];exact hy1.1 rfl
 have hkl:k=d.aJ.length:=by omega
 subst hkl;rw[bK]at hall;rw[show(d.aJ.map (kU (bV d))).take d.aJ.length=d.aJ.map (kU (bV d))from uX (by simp)];refine bA (fV (E:=bM) (v:=v6) (xs:=d.aJ.map (kU (bV d)))) (h:=?_);refine go ?_;refine kQ (c:=(0:Int)=0) (f:=ah bM v6 (d.aJ.map (kU (bV d)))) (by simp) ?_;exact ae ⟨v6,0⟩ (hv:=rfl) (hp:=⟨λ_=>⟨h2,hall⟩,λ_=>rfl⟩)
abbrev RlP(d:bF)(r:aQ)(y:aQ×Bool):Prop:=(y.2=true↔zK (bO d) (bV d) (dI d) r)/\(y.2=true->y.1=lY (bO d) (bV d) (dI d) r)
theorem af5{d:bF}{r:aQ}{vh vs vr vc vu v1 v2:Value}(hs:d.symbols.length<=16)(hrl:d.regions.length<=4096)(hcl:d.aJ.length<=4096)(h1:r.names.length<9223372036854775808)(h2:r.others.length<9223372036854775808):
 bn Tryz.prog (.func 171) [.agg ⟨gD d vh vs vr vc vu⟩,.agg ⟨iQ r v1 v2⟩] [] [] [ah fq vs d.symbols,ah eG vr d.regions,ah bM vc d.aJ,ah aT v1 r.names,ah aT v2 r.others] (λy:aQ×Bool=>.tuple ⟨[.agg ⟨iQ y.1 v1 v2⟩,.bool y.2]⟩) (λ_=>[]) (λ_=>[]) (RlP d r):=by
 refine aI _ (aO 171) λB w0=>?_;refine go ?_;intro b2 b3 b4;refine bA (eD (b:=b2)) (h:=?_);refine go ?_;refine eF (p:=r.on=⟨⟨[]⟩⟩) (by show Value.bool _=_;rw[dW]) (λh3=>?_) (λh3=>?_)
 ·refine go ?_;refine ax (UT (d:=d) (s:=r.on) (vh:=vh) (vs:=vs) (vr:=vr) (vc:=vc) (vu:=vu) hrl) (next:=λy hy=>?_);obtain⟨n,ok⟩:=y;obtain⟨hy1,hy2⟩:=hy;dsimp only at hy1 hy2;refine go ?_;cases ok with
  |false=>
   refine go ?_;exact ae ({r with family:=0},false) (hv:=rfl) (hp:=⟨⟨(λh=>by cases h),λh=>by rcases h.on with h|h;exact absurd h h3;have:=hy1.2 h;cases this⟩,(λh=>by cases h)⟩)
  |true=>
   have hon:r.on=⟨⟨[]⟩⟩\/r.on∈bV d:=.inr (hy1.1 rfl);have hn:=hy2 rfl;subst hn;have hfm:(if r.on=⟨⟨[]⟩⟩then(0:Int)else(dU r.on (bV d):Int))=(dU r.on (bV d):Int):=if_neg h3;refine go ?_;refine ax (Je (d:=d) (l:=r.names) (vh:=vh) (vs:=vs) (vr:=vr) (vc:=vc) (vu:=vu) (vl:=v1) hs h1) (next:=λz1 hz1=>?_);refine go ?_;refine ax (Je (d:=d) (l:=r.others) (vh:=vh) (vs:=vs) (vr:=vr) (vc:=vc) (vu:=vu) (vl:=v2) hs h2) (next:=λz2 hz2=>?_);refine go ?_;refine eF (p:=r.bW=⟨⟨[]⟩⟩) (by show Value.bool _=_;rw[dW]) (λh4=>?_) (λh4=>?_)
   ·refine go ?_;refine ax (UR (d:=d) (s:=r.bW) (vh:=vh) (vs:=vs) (vr:=vr) (vc:=vc) (vu:=vu) (by omega)) (next:=λy hy=>?_);obtain⟨n,ok⟩:=y;obtain⟨hy1,hy2⟩:=hy;dsimp only at hy1 hy2;refine go ?_;cases ok with
    |false=>
     refine go ?_;exact ae ({r with family:=(dU r.on (bV d):Int),set:=cond z1 (gp (bO d) r.names:Int) 0,other:=cond z2 (gp (bO d) r.others:Int) 0,aH:= -1},false) (hv:=rfl) (hp:=⟨⟨(λh=>by cases h),λh=>by rcases h.bW with h|h;exact absurd h h4;have:=hy1.2 h;cases this⟩,(λh=>by cases h)⟩)
    |true=>
     have hby:r.bW=⟨⟨[]⟩⟩\/r.bW∈dI d:=.inr (hy1.1 rfl);have hn:=hy2 rfl;subst hn;have hcm:(if r.bW=⟨⟨[]⟩⟩then(-1:Int)else(dU r.bW (dI d):Int))=(dU r.bW (dI d):Int):=if_neg h4;refine go ?_;cases z1 with
     |false=>
      refine go ?_;exact ae ({r with family:=(dU r.on (bV d):Int),set:=0,other:=cond z2 (gp (bO d) r.others:Int) 0,aH:=(dU r.bW (dI d):Int)},false) (hv:=rfl) (hp:=⟨⟨(λh=>by cases h),λh=>by have:=hz1.2 h.names;cases this⟩,(λh=>by cases h)⟩)
     |true=>
      cases z2 with
      |false=>
       refine go ?_;exact ae ({r with family:=(dU r.on (bV d):Int),set:=(gp (bO d) r.names:Int),other:=0,aH:=(dU r.bW (dI d):Int)},false) (hv:=rfl) (hp:=⟨⟨(λh=>by cases h),λh=>by have:=hz2.2 h.others;cases this⟩,(λh=>by cases h)⟩)
      |true=>
       refine go ?_;refine ae ({r with family:=(dU r.on (bV d):Int),set:=(gp (bO d) r.names:Int),other:=(gp (bO d) r.others:Int),aH:=(dU r.bW (dI d):Int)},true) (hv:=rfl) (hp:=⟨⟨λ_=>⟨hon,hz1.1 rfl,hz2.1 rfl,hby⟩,λ_=>rfl⟩,λ_=>?_⟩);unfold lY;rw[hfm,hcm]
   ·have hby:r.bW=⟨⟨[]⟩⟩\/r.bW∈dI d:=.inl h4;have hcm:(if r.bW=⟨⟨[]⟩⟩then(-1:Int)else(dU r.bW (dI d):Int))= -1:=if_pos h4;refine go ?_;cases z1 with
    |false=>
     refine go ?_;exact ae ({r with family:=(dU r.on (bV d):Int),set:=0,other:=cond z2 (gp (bO d) r.others:Int) 0,aH:=(-1:Int)},false) (hv:=rfl) (hp:=⟨⟨(λh=>by cases h),λh=>by have:=hz1.2 h.names;cases this⟩,(λh=>by cases h)⟩)
    |true=>
     cases z2 with
     |false=>
      refine go ?_;exact ae ({r with family:=(dU r.on (bV d):Int),set:=(gp (bO d) r.names:Int),other:=0,aH:=(-1:Int)},false) (hv:=rfl) (hp:=⟨⟨(λh=>by cases h),λh=>by have:=hz2.2 h.others;cases this⟩,(λh=>by cases h)⟩)
     |true=>
      refine go ?_;refine ae ({r with family:=(dU r.on (bV d):Int),set:=(gp (bO d) r.names:Int),other:=(gp (bO d) r.others:Int),aH:=(-1:Int)},true) (hv:=rfl) (hp:=⟨⟨λ_=>⟨hon,hz1.1 rfl,hz2.1 rfl,hby⟩,λ_=>rfl⟩,λ_=>?_⟩);unfold lY;rw[hfm,hcm]
 ·have hon:r.on=⟨⟨[]⟩⟩\/r.on∈bV d:=.inl h3;have hfm:(if r.on=⟨⟨[]⟩⟩then(0:Int)else(dU r.on (bV d):Int))=0:=if_pos h3;refine go ?_;refine ax (Je (d:=d) (l:=r.names) (vh:=vh) (vs:=vs) (vr:=vr) (vc:=vc) (vu:=vu) (vl:=v1) hs h1) (next:=λz1 hz1=>?_);refine go ?_;refine ax (Je (d:=d) (l:=r.others) (vh:=vh) (vs:=vs) (vr:=vr) (vc:=vc) (vu:=vu) (vl:=v2) hs h2) (next:=λz2 hz2=>?_);refine go ?_;refine eF (p:=r.bW=⟨⟨[]⟩⟩) (by show Value.bool _=_;rw[dW]) (λh4=>?_) (λh4=>?_)
  ·refine go ?_;refine ax (UR (d:=d) (s:=r.bW) (vh:=vh) (vs:=vs) (vr:=vr) (vc:=vc) (vu:=vu) (by omega)) (next:=λy hy=>?_);obtain⟨n,ok⟩:=y;obtain⟨hy1,hy2⟩:=hy;dsimp only at hy1 hy2;refine go ?_;cases ok with
   |false=>
    refine go ?_;exact ae ({r with family:=(0:Int),set:=cond z1 (gp (bO d) r.names:Int) 0,other:=cond z2 (gp (bO d) r.others:Int) 0,aH:= -1},false) (hv:=rfl) (hp:=⟨⟨(λh=>by cases h),λh=>by rcases h.bW with h|h;exact absurd h h4;have:=hy1.2 h;cases this⟩,(λh=>by cases h)⟩)
   |true=>
    have hby:r.bW=⟨⟨[]⟩⟩\/r.bW∈dI d:=.inr (hy1.1 rfl);have hn:=hy2 rfl;subst hn;have hcm:(if r.bW=⟨⟨[]⟩⟩then(-1:Int)else(dU r.bW (dI d):Int))=(dU r.bW (dI d):Int):=if_neg h4;refine go ?_;cases z1 with
    |false=>
     refine go ?_;exact ae ({r with family:=(0:Int),set:=0,other:=cond z2 (gp (bO d) r.others:Int) 0,aH:=(dU r.bW (dI d):Int)},false) (hv:=rfl) (hp:=⟨⟨(λh=>by cases h),λh=>by have:=hz1.2 h.names;cases this⟩,(λh=>by cases h)⟩)
    |true=>
     cases z2 with
     |false=>
      refine go ?_;exact ae ({r with family:=(0:Int),set:=(gp (bO d) r.names:Int),other:=0,aH:=(dU r.bW (dI d):Int)},false) (hv:=rfl) (hp:=⟨⟨(λh=>by cases h),λh=>by have:=hz2.2 h.others;cases this⟩,(λh=>by cases h)⟩)
     |true=>
      refine go ?_;refine ae ({r with family:=(0:Int),set:=(gp (bO d) r.names:Int),other:=(gp (bO d) r.others:Int),aH:=(dU r.bW (dI d):Int)},true) (hv:=rfl) (hp:=⟨⟨λ_=>⟨hon,hz1.1 rfl,hz2.1 rfl,hby⟩,λ_=>rfl⟩,λ_=>?_⟩);unfold lY;rw[hfm,hcm]
  ·have hby:r.bW=⟨⟨[]⟩⟩\/r.bW∈dI d:=.inl h4;have hcm:(if r.bW=⟨⟨[]⟩⟩then(-1:Int)else(dU r.bW (dI d):Int))= -1:=if_pos h4;refine go ?_;cases z1 with
   |false=>
    refine go ?_;exact ae ({r with family:=(0:Int),set:=0,other:=cond z2 (gp (bO d) r.others:Int) 0,aH:=(-1:Int)},false) (hv:=rfl) (hp:=⟨⟨(λh=>by cases h),λh=>by have:=hz1.2 h.names;cases this⟩,(λh=>by cases h)⟩)
   |true=>
    cases z2 with
    |false=>
     refine go ?_;exact ae ({r with family:=(0:Int),set:=(gp (bO d) r.names:Int),other:=0,aH:=(-1:Int)},false) (hv:=rfl) (hp:=⟨⟨(λh=>by cases h),λh=>by have:=hz2.2 h.others;cases this⟩,(λh=>by cases h)⟩)
    |true=>
     refine go ?_;refine ae ({r with family:=(0:Int),set:=(gp (bO d) r.names:Int),other:=(gp (bO d) r.others:Int),aH:=(-1:Int)},true) (hv:=rfl) (hp:=⟨⟨λ_=>⟨hon,hz1.1 rfl,hz2.1 rfl,hby⟩,λ_=>rfl⟩,λ_=>?_⟩);unfold lY;rw[hfm,hcm]
theorem af6{d:bF}{vh vs vr vc vu:Value}(hs:d.symbols.length<=16)(hD:l6 d):
 bn Tryz.prog (.func 126) [.agg ⟨gD d vh vs vr vc vu⟩] [] [] [ah fq vs d.symbols,ah eG vr d.regions,ah bM vc d.aJ,ah aY vu d.rules] uO (λ_=>[]) (λy=>[l9 (y.e=0) (ah aY y.v (d.rules.map (lY (bO d) (bV d) (dI d))))]) (λy=>y.e=0↔(mJ d).Nodup/\∀r∈d.rules,zK (bO d) (bV d) (dI d) r):=by
 have hrl:=hD.regs;have hcl:=hD.jm;have yu:=hD.kz;have hrn:=hD.qE;refine aI _ (aO 126) λB w0=>?_;refine aS (E:=aY) (v:=vu) (xs:=d.rules) (by simp) λa1 c1 e1=>?_;subst e1;refine go ?_;intro b1;refine bA (eD (b:=b1)) (h:=?_);refine go ?_;refine fZ aT ?_;refine aZ (λy:Nat×Value=>d.rules.length - y.1) (λy=>[(5,.int .i64 (y.1:Int)),(4,y.2)]) (λy=>[ap aT y.2 ((mJ d).take y.1)]) (λ_=>[]) (λy=>y.1<=d.rules.length) (0,.slice none 0 0) (bY _) (hk:=by repeat (first|exact aG.nil|(apply aG.cons;(focus (repeat (first|exact az.here|apply az.there)))))) (body:=?_);rintro⟨k,v4⟩ hk;dsimp only at hk⊢;have hil:((mJ d).take k).length=k:=by rw[gW];simp[mJ];omega
 refine go ?_;refine ay rfl (λh1=>?_) (λh1=>?_)
 ·refine go ?_;refine bi aY (xs:=d.rules) (next:=λ_ _ x _ hx=>?_);have kS:(mJ d)[k]? =some x.name:=by unfold mJ;rw[fA,hx];rfl
  refine go ?_;intro NL;refine go ?_;refine eO aT (xs:=(mJ d).take k) x.name () (by omega) (next:=λad=>?_);rw[<- bU kS];refine go ?_;exact aP (k+1,.slice ad (((mJ d).take k).length+1) (((mJ d).take k).length+1)) (by show d.rules.length - (k+1)<d.rules.length - k;omega) (by show k+1<=_;omega)
 have hkl:k=d.rules.length:=by omega
 subst hkl;rw[show(mJ d).take d.rules.length=mJ d from uX (by simp[mJ])];refine bA (fV (E:=aT) (v:=v4) (xs:=mJ d)) (h:=?_);refine go ?_;refine ax (Jd (vl:=v4) (xs:=mJ d) (by simp[mJ];omega)) (next:=λ_ _=>?_);refine go ?_;refine eF rfl (λh2=>?_) (λh2=>?_)
 ·refine go ?_;refine lK (c:=(161:Int)=0) (f:=ah aY (.slice none 0 0) (d.rules.map (lY (bO d) (bV d) (dI d)))) (by omega) ?_;exact ae ⟨.slice none 0 0,161⟩ (hv:=rfl) (hp:=⟨(λh=>by cases h),λh=>absurd h.1 h2⟩)
 refine go ?_;refine fZ aY ?_;generalize hf:lY (bO d) (bV d) (dI d)=f;refine aZ (λy:Nat×Value=>d.rules.length - y.1) (λy=>[(7,.int .i64 (y.1:Int)),(6,y.2)]) (λy=>[ap aY y.2 ((d.rules.map f).take y.1)]) (λ_=>[]) (λy=>y.1<=d.rules.length/\∀r∈d.rules.take y.1,zK (bO d) (bV d) (dI d) r) (0,.slice none 0 0) ⟨bY _,by simp⟩ (hk:=by repeat (first|exact aG.nil|(apply aG.cons;(focus (repeat (first|exact az.here|apply az.there)))))) (body:=?_);rintro⟨k,v6⟩ ⟨hk,hall⟩;dsimp only at hk hall⊢;have hil:((d.rules.map f).take k).length=k:=by rw[gW,cz];omega
 refine go ?_;refine ay rfl (λh3=>?_) (λh3=>?_)
 ·refine go ?_;refine bi aY (xs:=d.rules) (next:=λ_ _ x (vx:Value×Value) hx=>?_);have hxm:(d.rules.map f)[k]? =some (f x):=by rw[fA,hx];rfl
  have hxl:=hrn x (bH hx);refine go ?_;intro b8;refine ax (af5 (d:=d) (r:=x) (vh:=vh) (vs:=vs) (vr:=vr) (vc:=vc) (vu:=.slice a1 d.rules.length c1) (v1:=vx.1) (v2:=vx.2) hs hrl hcl hxl.1 hxl.2) (next:=λy hy=>?_);obtain⟨z,ok⟩:=y;obtain⟨hy1,hy2⟩:=hy;dsimp only at hy1 hy2;refine go ?_;cases ok with
  |false=>
   refine go ?_;refine lK (c:=(160:Int)=0) (f:=ah aY (.slice none 0 0) (d.rules.map f)) (by omega) ?_;exact ae ⟨.slice none 0 0,160⟩ (hv:=rfl) (hp:=⟨(λh=>by cases h),λh=>by have:=hy1.2 (h.2 x (bH hx));cases this⟩)
  |true=>
   have hz:=hy2 rfl;rw[hf]at hz;have hzn:z.names=x.names/\z.others=x.others:=by rw[hz,<- hf];exact⟨rfl,rfl⟩
   refine go ?_;intro b54;refine go ?_;refine eT (ah aT vx.1 z.names) (λw hw=>by rw[hzn.1];exact hw (ah aT vx.1 x.names) (by simp)) ?_;refine eT (ah aT vx.2 z.others) (λw hw=>by rw[hzn.2];exact hw (ah aT vx.2 x.others) (by simp)) ?_;refine eO aY (xs:=(d.rules.map f).take k) z vx (by omega) (next:=λad=>?_);rw[hz,<- bU hxm];refine go ?_;refine aP (k+1,.slice ad (((d.rules.map f).take k).length+1) (((d.rules.map f).take k).length+1)) (by show d.rules.length - (k+1)<d.rules.length - k;omega) ⟨by show k+1<=_;omega,?_⟩;show∀c∈d.rules.take (k+1),zK (bO d) (bV d) (dI d) c;rw[bU hx];intro c hc;rcases dZ.1 hc with hc|hc
   ·exact hall c hc
   ·rw[bI.1 hc];exact hy1.1 rfl
 have hkl:k=d.rules.length:=by omega
 subst hkl;rw[bK]at hall;rw[show(d.rules.map f).take d.rules.length=d.rules.map f from uX (by simp)];refine bA (fV (E:=aY) (v:=v6) (xs:=d.rules.map f)) (h:=?_);refine go ?_;refine kQ (c:=(0:Int)=0) (f:=ah aY v6 (d.rules.map f)) (by simp) ?_;exact ae ⟨v6,0⟩ (hv:=rfl) (hp:=⟨λ_=>⟨h2,hall⟩,λ_=>rfl⟩)
theorem UU{d:bF}{vh vs vr vc vu:Value}(hD:l6 d):
 bn Tryz.prog (.func 89) [.agg ⟨gD d vh vs vr vc vu⟩] [] [] (kM d vh vs vr vc vu) (qD d vh vs vr) (λ_=>[]) (nN d) (zU d):=by
 have hsl:=hD.dO;have hrl:=hD.regs;have hcl:=hD.jm;have yu:=hD.kz;have hgl:iM.length=8:=rfl;refine aI _ (aO 89) λB w0=>?_;refine aS (E:=fq) (v:=vs) (xs:=d.symbols) (by simp) λa1 c1 e1=>?_;subst e1;refine aS (E:=eG) (v:=vr) (xs:=d.regions) (by simp) λa2 c2 e2=>?_;subst e2;refine go ?_;intro b1 b2;refine go ?_;refine ay rfl (λhs=>?_) (λhs=>?_)
 ·refine go ?_;exact ae ⟨false,2,.nilFunc,.nilFunc⟩ (hv:=rfl) (hp:=⟨(λh=>by cases h),λ_=>⟨by show(2:Int)≠0;omega,λh=>by have:=h.dO;omega⟩⟩)
 refine go ?_;refine fZ aT ?_;refine aZ (λy:Nat×Value=>d.symbols.length - y.1) (λy=>[(5,.int .i64 (y.1:Int)),(4,y.2)]) (λy=>[ap aT y.2 ((bO d).take y.1)]) (λ_=>[]) (λy=>y.1<=d.symbols.length) (0,.slice none 0 0) (bY _) (hk:=by repeat (first|exact aG.nil|(apply aG.cons;(focus (repeat (first|exact az.here|apply az.there)))))) (body:=?_);rintro⟨k,v4⟩ hk;dsimp only at hk⊢;have hil:((bO d).take k).length=k:=by rw[gW];simp[bO];omega
 refine go ?_;refine ay rfl (λh1=>?_) (λh1=>?_)
 ·refine go ?_;refine bi fq (xs:=d.symbols) (next:=λ_ _ x _ hx=>?_);have kS:(bO d)[k]? =some x.name:=by unfold bO;rw[fA,hx];rfl
  refine go ?_;intro NL;refine go ?_;refine eO aT (xs:=(bO d).take k) x.name () (by omega) (next:=λad=>?_);rw[<- bU kS];refine go ?_;exact aP (k+1,.slice ad (((bO d).take k).length+1) (((bO d).take k).length+1)) (by show d.symbols.length - (k+1)<d.symbols.length - k;omega) (by show k+1<=_;omega)
 have hkl:k=d.symbols.length:=by omega
 subst hkl;rw[show(bO d).take d.symbols.length=bO d from uX (by simp[bO])];refine bA (fV (E:=aT) (v:=v4) (xs:=bO d)) (h:=?_);refine go ?_;refine ax (Jd (vl:=v4) (xs:=bO d) (by simp[bO];omega)) (next:=λ_ _=>?_);refine go ?_;refine eF rfl (λk1=>?_) (λk1=>?_)
 ·refine go ?_;exact ae ⟨false,161,.nilFunc,.nilFunc⟩ (hv:=rfl) (hp:=⟨(λh=>by cases h),λ_=>⟨by show(161:Int)≠0;omega,λh=>k1 h.Su⟩⟩)
 refine go ?_;refine ax UQ (next:=λag _=>?_);refine go ?_;refine aZ (λy:Nat×Value=>d.regions.length - y.1) (λy=>[(7,.int .i64 (y.1:Int)),(6,y.2)]) (λy=>[ap aT y.2 (iM++(nS d).take y.1)]) (λ_=>[]) (λy=>y.1<=d.regions.length) (0,.slice ag iM.length iM.length) (bY _) (hk:=by rw[List.take_zero,gN];repeat (first|exact aG.nil|(apply aG.cons;(focus (repeat (first|exact az.here|apply az.there)))))) (body:=?_);rintro⟨k,v6⟩ hk;dsimp only at hk⊢;have hil:(iM++(nS d).take k).length=8+k:=by rw[gH,gW,hgl];simp[nS];omega
 refine go ?_;refine ay rfl (λh1=>?_) (λh1=>?_)
 ·refine go ?_;refine bi eG (xs:=d.regions) (next:=λ_ _ x (_:Value) hx=>?_);have kS:(nS d)[k]? =some x.name:=by unfold nS;rw[fA,hx];rfl
  refine go ?_;intro NL;refine go ?_;refine eO aT (xs:=iM++(nS d).take k) x.name () (by omega) (next:=λad=>?_);rw[fB,<- bU kS];refine go ?_;exact aP (k+1,.slice ad ((iM++(nS d).take k).length+1) ((iM++(nS d).take k).length+1)) (by show d.regions.length - (k+1)<d.regions.length - k;omega) (by show k+1<=_;omega)
 have hkl:k=d.regions.length:=by omega
 subst hkl;rw[show iM++(nS d).take d.regions.length=bV d from by rw[uX (by simp[nS])];rfl];refine bA (fV (E:=aT) (v:=v6) (xs:=bV d)) (h:=?_);refine go ?_;refine ax (Jd (vl:=v6) (xs:=bV d) (by simp[bV];omega)) (next:=λ_ _=>?_);refine go ?_;refine eF rfl (λk2=>?_) (λk2=>?_)
 ·refine go ?_;exact ae ⟨false,161,.nilFunc,.nilFunc⟩ (hv:=rfl) (hp:=⟨(λh=>by cases h),λ_=>⟨by show(161:Int)≠0;omega,λh=>k2 h.Sv⟩⟩)
 refine go ?_;refine ax (af2 (d:=d) (vh:=vh) (vs:=.slice a1 d.symbols.length c1) (vr:=.slice a2 d.regions.length c2) (vc:=vc) (vu:=vu) hrl hcl) (next:=λy hy=>?_);obtain⟨wc,e⟩:=y;dsimp only at hy⊢;refine go ?_;refine ay rfl (λk3=>?_) (λk3=>?_)
 ·refine go ?_;exact ae ⟨false,e,.nilFunc,.nilFunc⟩ (hv:=rfl) (hp:=⟨(λh=>by cases h),λ_=>⟨k3,λh=>k3 (hy.2 ⟨h.Sw,h.Mf⟩)⟩⟩)
 have he:e=0:=iI.1 k3;subst he;obtain⟨p1,p2⟩:=hy.1 rfl;clear hy k3;refine eT (ah bM wc (Kd.bG d).aJ) (λw hw=>hw (l9 ((0:Int)=0) (ah bM wc (d.aJ.map (kU (bV d))))) (by simp) rfl) ?_;refine go ?_;refine ax (af6 (d:=d) (vh:=vh) (vs:=.slice a1 d.symbols.length c1) (vr:=.slice a2 d.regions.length c2) (vc:=vc) (vu:=vu) (by omega) hD) (next:=λy hy=>?_);obtain⟨wu,e⟩:=y;dsimp only at hy⊢;refine go ?_;refine ay rfl (λk3=>?_) (λk3=>?_)
 ·refine go ?_;exact ae ⟨false,e,.nilFunc,.nilFunc⟩ (hv:=rfl) (hp:=⟨(λh=>by cases h),λ_=>⟨k3,λh=>k3 (hy.2 ⟨h.Sy,h.uD⟩)⟩⟩)
 have he:e=0:=iI.1 k3;subst he;obtain⟨p3,p4⟩:=hy.1 rfl;clear hy k3;refine eT (ah aY wu (Kd.bG d).rules) (λw hw=>hw (l9 ((0:Int)=0) (ah aY wu (d.rules.map (lY (bO d) (bV d) (dI d))))) (by simp) rfl) ?_;refine aS (E:=bM) (v:=wc) (xs:=(Kd.bG d).aJ) (by simp) λa3 c3 e3=>?_;subst e3;refine aS (E:=aY) (v:=wu) (xs:=(Kd.bG d).rules) (by simp) λa4 c4 e4=>?_;subst e4;refine go ?_;refine ae ⟨true,0,.slice a3 (Kd.bG d).aJ.length c3,.slice a4 (Kd.bG d).rules.length c4⟩ (hv:=rfl) (hp:=⟨λ_=>⟨rfl,⟨by omega,k1,k2,p1,p2,p3,p4⟩⟩,(λh=>by cases h)⟩) (hF:=?_);show Sub [ah bM _ (Kd.bG d).aJ,ah aY _ (Kd.bG d).rules] _;exact .cons (by simp) (.cons (by simp) .nil)
