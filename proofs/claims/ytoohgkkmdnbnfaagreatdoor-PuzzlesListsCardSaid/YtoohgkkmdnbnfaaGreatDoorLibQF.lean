/-
  The reference's names: which names are twice; where a name stands; sets of symbols.
-/
import Derived.Test.YtoohgkkmdnbnfaaGreatDoorLibCF
set_option linter.all false
set_option maxRecDepth 10000
set_option maxHeartbeats 4000000
namespace Go.Proofs.YtoohgkkmdnbnfaaGreatDoor
open Go.Ideal Kd
noncomputable def Uy:gL:=⟨2,[(.tmp 0)],(.seq (.ops [0] [⟨⟨(some 0),none,(.mg (.const (.slice none 0 0)))⟩,[]⟩]) (.seq (.ops [1,0] [⟨⟨(some 1),none,(.uP 9 8 [(.string ⟨⟨[]⟩⟩),(.string ⟨⟨[]⟩⟩),(.string ⟨⟨[]⟩⟩),(.string ⟨⟨[]⟩⟩),(.string ⟨⟨[]⟩⟩),(.string ⟨⟨[]⟩⟩),(.string ⟨⟨[]⟩⟩),(.string ⟨⟨[]⟩⟩)] [⟨0,⟨1,(.const (.string ⟨⟨[99,101,108,108,115]⟩⟩))⟩⟩,⟨1,⟨1,(.const (.string ⟨⟨[114,111,119,115]⟩⟩))⟩⟩,⟨2,⟨1,(.const (.string ⟨⟨[99,111,108,117,109,110,115]⟩⟩))⟩⟩,⟨3,⟨1,(.const (.string ⟨⟨[100,105,97,103,111,110,97,108,115]⟩⟩))⟩⟩,⟨4,⟨1,(.const (.string ⟨⟨[97,114,111,117,110,100]⟩⟩))⟩⟩,⟨5,⟨1,(.const (.string ⟨⟨[110,101,97,114]⟩⟩))⟩⟩,⟨6,⟨1,(.const (.string ⟨⟨[112,97,105,114,115]⟩⟩))⟩⟩,⟨7,⟨1,(.const (.string ⟨⟨[97,108,108]⟩⟩))⟩⟩])⟩,[]⟩,⟨⟨(some 0),none,(.mg (.tmp 1))⟩,[]⟩]) .ret))⟩
theorem afP:mo Tryz.prog 124=some Uy:=by kernel_rfl
theorem EK{s:ByteArray}:∀{l:List ByteArray} {k:Nat},l[k]? =some s->s∉l.take k->dR s l=k
 |[],k,h,_=>by simp at h
 |a::l,0,h,_=>by
  have h:a=s:=by simpa using h
  unfold dR;rw[if_pos h.symm]
 |a::l,k+1,h,hn=>by
  have h:l[k]? =some s:=by simpa using h
  rw[List.take_succ_cons,dD,not_or]at hn;unfold dR;rw[if_neg hn.1,EK h hn.2]
theorem Uz{α:Type}{xs:List α}{k:Nat}{x:α}(hx:xs[k]? =some x):(xs.take (k+1)).Nodup↔(xs.take k).Nodup/\x∉xs.take k:=by
 rw[bX hx,iJ];constructor
 ·rintro⟨h1,_,h2⟩;exact⟨h1,λh=>h2 x h x (bH.2 rfl) rfl⟩
 ·rintro⟨h1,h2⟩;exact⟨h1,by simp,λa ha b hb e=>h2 (by rw[bH.1 hb]at e;rw[<- e];exact ha)⟩
theorem IP{vl:Value}{xs:List ByteArray}(hl:xs.length<9223372036854775808):dG Tryz.prog 123 [vl] [ah aR vl xs] (.bool (!decide xs.Nodup)):=by
 refine aK _ (aP 123) λB w0=>?_;refine aV (E:=aR) (v:=vl) (xs:=xs) (by simp) λa1 c1 e1=>?_;subst e1;refine go ?_;refine bi (λk=>xs.length - k) (λk:Nat=>[(3,.int .i64 (k:Int))]) (λ_=>[]) (λ_=>[]) (λk=>k<=xs.length/\(xs.take k).Nodup) 0 ⟨by omega,by simp⟩ (body:=?_);rintro k ⟨hk,hnd⟩;refine go ?_;refine az rfl (λh1=>?_) (λh1=>?_)
 ·have hx:xs[k]? =some (xs[k]'(by omega)):=cz _;generalize xs[k]'(by omega)=x at hx;refine go ?_;refine bi (λj=>k - j) (λj:Nat=>[(4,.int .i64 (j:Int))]) (λ_=>[]) (λ_=>[]) (λj=>j<=k/\x∉xs.take j) 0 ⟨by omega,by simp⟩ (body:=?_);rintro j ⟨hj,hno⟩;refine go ?_;refine az rfl (λh2=>?_) (λh2=>?_)
  ·refine go ?_;refine aZ aR (xs:=xs) (next:=λ_ _ x' (_:Unit) hx'=>?_);cases hx.symm.trans hx';refine go ?_;refine aZ aR (xs:=xs) (next:=λ_ _ y (_:Unit) hy=>?_);refine go ?_;refine jT rfl (λh3=>?_) (λh3=>?_)
   ·rw[dU]at h3;have h3:=gQ h3;subst h3;refine go ?_;refine ae () (hv:=?_) (hp:=trivial);rw[aT (λhn=>by
     have h4:(xs.take (k+1)).Nodup:=hn.sublist (NS _ _);rw[Uz hx]at h4;exact h4.2 (tQ.2 ⟨j,by rw[tL,if_pos (by omega)];exact hy⟩))];rfl
   ·rw[dU]at h3;have h3:=mI h3;refine go ?_;refine aQ (j+1) (by omega) ⟨by omega,?_⟩;rw[bX hy,dX,not_or];exact⟨hno,by simp;exact h3⟩
  have hjk:j=k:=by omega
  subst hjk;refine go ?_;exact aQ (j+1) (by omega) ⟨by omega,(Uz hx).2 ⟨hnd,hno⟩⟩
 have hkl:k=xs.length:=by omega
 subst hkl;rw[bK]at hnd;refine go ?_;refine ae () (hv:=?_) (hp:=trivial);rw[dZ hnd];rfl
theorem UA:bz Tryz.prog (.func 124) [] [] [] [] (λa:Option Addr=>.slice a iF.length iF.length) (λa=>[ap aR (.slice a iF.length iF.length) iF]) (λ_=>[]) (λ_=>True):=by
 refine aK Uy afP λB w0=>?_;refine go ?_;intro b;refine go ?_;refine sO (b:=b) (m:=iF.length) (f:=0) aR (aJ:=iF.map λs=>(s,())) rfl (.inl rfl) ?_ (hk:=ay.here);refine abg (E:=aR) (aJ:=iF.map λs=>(s,())) (by decide) ?_ (λw hw p hp f hf=>by cases hf);show R _ _ _ [ap aR (.slice (some ⟨b,0,some 0⟩) iF.length iF.length) iF] _;exact ae (some ⟨b,0,some 0⟩) (hv:=rfl) (hp:=trivial)
def Nn(s:ByteArray)(l:List ByteArray)(y:Nat×Bool):Prop:=(y.2=true↔s∈l)/\(y.2=true->dR s l=y.1)
abbrev Np(y:Nat×Bool):Value:=.tuple ⟨[.int .i64 (y.1:Int),.bool y.2]⟩
theorem afQ{d:bD}{s:ByteArray}{vh vs vr vc vu:Value}(hl:d.symbols.length<9223372036854775808):bz Tryz.prog (.func 269) [.agg ⟨gq d vh vs vr vc vu⟩,.string s] [] [] [ah fA vs d.symbols] Np (λ_=>[]) (λ_=>[]) (Nn s (bO d)):=by
 refine aK _ (aP 269) λB w0=>?_;refine aV (E:=fA) (v:=vs) (xs:=d.symbols) (by simp) λa1 c1 e1=>?_;subst e1;refine go ?_;intro b1;refine go ?_;refine bi (λk=>d.symbols.length - k) (λk:Nat=>[(6,.int .i64 (k:Int))]) (λ_=>[]) (λ_=>[]) (λk=>k<=d.symbols.length/\s∉(bO d).take k) 0 ⟨by omega,by simp⟩ (body:=?_);rintro k ⟨hk,hno⟩;refine go ?_;refine az rfl (λh1=>?_) (λh1=>?_)
 ·refine go ?_;refine aZ fA (xs:=d.symbols) (next:=λ_ _ x _ hx=>?_);have kK:(bO d)[k]? =some x.name:=by unfold bO;rw[fo,hx];rfl
  refine go ?_;refine jT rfl (λh2=>?_) (λh2=>?_)
  ·rw[dU]at h2;have h2:=gQ h2;subst h2;refine go ?_;exact ae (k,true) (hv:=rfl) (hp:=⟨⟨λ_=>bI kK,λ_=>rfl⟩,λ_=>EK kK hno⟩)
  ·rw[dU]at h2;have h2:=mI h2;refine go ?_;refine aQ (k+1) (by omega) ⟨by omega,?_⟩;rw[bX kK,dX,not_or];exact⟨hno,by simp;exact λe=>h2 e.symm⟩
 have hkl:k=d.symbols.length:=by omega
 subst hkl;rw[show(bO d).take d.symbols.length=bO d from uO (by simp[bO])]at hno;refine go ?_;exact ae (0,false) (hv:=rfl) (hp:=⟨⟨(λh=>by cases h),λh=>absurd h hno⟩,(λh=>by cases h)⟩)
theorem UB{d:bD}{s:ByteArray}{vh vs vr vc vu:Value}(hl:d.aI.length<9223372036854775808):bz Tryz.prog (.func 239) [.agg ⟨gq d vh vs vr vc vu⟩,.string s] [] [] [ah bJ vc d.aI] Np (λ_=>[]) (λ_=>[]) (Nn s (dH d)):=by
 refine aK _ (aP 239) λB w0=>?_;refine aV (E:=bJ) (v:=vc) (xs:=d.aI) (by simp) λa1 c1 e1=>?_;subst e1;refine go ?_;intro b1;refine go ?_;refine bi (λk=>d.aI.length - k) (λk:Nat=>[(6,.int .i64 (k:Int))]) (λ_=>[]) (λ_=>[]) (λk=>k<=d.aI.length/\s∉(dH d).take k) 0 ⟨by omega,by simp⟩ (body:=?_);rintro k ⟨hk,hno⟩;refine go ?_;refine az rfl (λh1=>?_) (λh1=>?_)
 ·refine go ?_;refine aZ bJ (xs:=d.aI) (next:=λ_ _ x _ hx=>?_);have kK:(dH d)[k]? =some x.name:=by unfold dH;rw[fo,hx];rfl
  refine go ?_;refine jT rfl (λh2=>?_) (λh2=>?_)
  ·rw[dU]at h2;have h2:=gQ h2;subst h2;refine go ?_;exact ae (k,true) (hv:=rfl) (hp:=⟨⟨λ_=>bI kK,λ_=>rfl⟩,λ_=>EK kK hno⟩)
  ·rw[dU]at h2;have h2:=mI h2;refine go ?_;refine aQ (k+1) (by omega) ⟨by omega,?_⟩;rw[bX kK,dX,not_or];exact⟨hno,by simp;exact λe=>h2 e.symm⟩
 have hkl:k=d.aI.length:=by omega
 subst hkl;rw[show(dH d).take d.aI.length=dH d from uO (by simp[dH])]at hno;refine go ?_;exact ae (0,false) (hv:=rfl) (hp:=⟨⟨(λh=>by cases h),λh=>absurd h hno⟩,(λh=>by cases h)⟩)
def nM(d:bD):List ByteArray:=d.regions.map (·.name)
theorem afR{s:ByteArray}{a b:List ByteArray}(h:s∉a):dR s (a++b)=a.length+dR s b:=by
 induction a with
 |nil=>simp
 |cons x a ih=>
  rw[dD,not_or]at h;show(if s=x then 0 else dR s (a++b)+1)=_;rw[if_neg h.1,ih h.2,oO];omega
theorem afS{s:ByteArray}{a b:List ByteArray}(h:s∈a):dR s (a++b)=dR s a:=by
 induction a with
 |nil=>cases h
 |cons x a ih=>
  show(if s=x then 0 else dR s (a++b)+1)=if s=x then 0 else dR s a+1
  by_cases e:s=x
  ·rw[if_pos e,if_pos e]
  ·rw[if_neg e,if_neg e,ih ((dD.1 h).resolve_left e)]
theorem UC{d:bD}{s:ByteArray}{vh vs vr vc vu:Value}(hl:d.regions.length<=4096):bz Tryz.prog (.func 170) [.agg ⟨gq d vh vs vr vc vu⟩,.string s] [] [] [ah ed vr d.regions] Np (λ_=>[]) (λ_=>[]) (Nn s (bS d)):=by
 have hgl:iF.length=8:=rfl;refine aK _ (aP 170) λB w0=>?_;refine aV (E:=ed) (v:=vr) (xs:=d.regions) (by simp) λa1 c1 e1=>?_;subst e1;refine go ?_;intro b1;refine go ?_;refine ax UA (next:=λag _=>?_);refine bC (gy (E:=aR) (v:=.slice ag iF.length iF.length) (xs:=iF)) (h:=?_);refine go ?_;refine bi (λk=>iF.length - k) (λk:Nat=>[(7,.int .i64 (k:Int))]) (λ_=>[]) (λ_=>[]) (λk=>k<=iF.length/\s∉iF.take k) 0 ⟨by omega,by simp⟩ (body:=?_);rintro k ⟨hk,hno⟩;refine go ?_;refine az rfl (λh1=>?_) (λh1=>?_)
 ·refine go ?_;refine aZ aR (xs:=iF) (next:=λ_ _ x (_:Unit) hx=>?_);refine go ?_;refine jT rfl (λh2=>?_) (λh2=>?_)
  ·rw[dU]at h2;have h2:=gQ h2;subst h2;refine go ?_;exact ae (k,true) (hv:=rfl) (hp:=⟨⟨λ_=>kv _ (bI hx),λ_=>rfl⟩,λ_=>(afS (bI hx)).trans (EK hx hno)⟩)
  ·rw[dU]at h2;have h2:=mI h2;refine go ?_;refine aQ (k+1) (by omega) ⟨by omega,?_⟩;rw[bX hx,dX,not_or];exact⟨hno,by simp;exact λe=>h2 e.symm⟩
 have hkl:k=iF.length:=by omega
 subst hkl;rw[bK]at hno;have C9:=hno;clear hno hk h1;refine go ?_;refine bi (λk=>d.regions.length - k) (λk:Nat=>[(8,.int .i64 (k:Int))]) (λ_=>[]) (λ_=>[]) (λk=>k<=d.regions.length/\s∉(nM d).take k) 0 ⟨by omega,by simp⟩ (body:=?_);rintro k ⟨hk,hno⟩;refine go ?_;refine az rfl (λh1=>?_) (λh1=>?_)
 ·refine go ?_;refine aZ ed (xs:=d.regions) (next:=λ_ _ x (_:Value) hx=>?_);have kK:(nM d)[k]? =some x.name:=by unfold nM;rw[fo,hx];rfl
  refine go ?_;refine jT rfl (λh2=>?_) (λh2=>?_)
  ·rw[dU]at h2;have h2:=gQ h2;subst h2;refine go ?_;refine ae (8+k,true) (hv:=?_) (hp:=⟨⟨λ_=>oP _ (bI kK),λ_=>rfl⟩,λ_=>(afR C9).trans ?_⟩)
   ·show Value.tuple ⟨[.int .i64 (8+(k:Int)),.bool true]⟩=.tuple ⟨[.int .i64 ((8+k:Nat):Int),.bool true]⟩;rw[show((8+k:Nat):Int)=8+(k:Int)by omega]
   ·have:=EK kK hno;unfold nM at this;rw[this];rfl
  ·rw[dU]at h2;have h2:=mI h2;refine go ?_;refine aQ (k+1) (by omega) ⟨by omega,?_⟩;rw[bX kK,dX,not_or];exact⟨hno,by simp;exact λe=>h2 e.symm⟩
 have hkl:k=d.regions.length:=by omega
 subst hkl;rw[show(nM d).take d.regions.length=nM d from uO (by simp[nM])]at hno;refine go ?_;exact ae (0,false) (hv:=rfl) (hp:=⟨⟨(λh=>by cases h),λh=>by
  rcases dX.1 h with h|h
  ·exact absurd h C9
  ·exact absurd h hno⟩,(λh=>by cases h)⟩)
theorem IQ{d:bD}{l:List ByteArray}{vh vs vr vc vu vl:Value}(hs:d.symbols.length<=16)(hl:l.length<9223372036854775808):
 bz Tryz.prog (.func 238) [.agg ⟨gq d vh vs vr vc vu⟩,vl] [] [] [ah fA vs d.symbols,ah aR vl l] (λy:Bool=>.tuple ⟨[.int .i64 (cond y (fT (bO d) l:Int) 0),.bool y]⟩) (λ_=>[]) (λ_=>[]) (λy=>y=true↔∀s∈l,s∈bO d):=by
 have hsl:(bO d).length<=16:=by simp[bO];exact hs
 refine aK _ (aP 238) λB w0=>?_;refine aV (E:=aR) (v:=vl) (xs:=l) (by simp) λa1 c1 e1=>?_;subst e1;refine go ?_;intro b1;refine go ?_;refine bi (λk=>l.length - k) (λk:Nat=>[(7,.int .i64 (k:Int)),(6,.int .i64 (fT (bO d) (l.take k):Int))]) (λ_=>[]) (λ_=>[]) (λk=>k<=l.length/\∀s∈l.take k,s∈bO d) 0 ⟨cB _,by simp⟩ (body:=?_);rintro k ⟨hk,hall⟩;refine go ?_;refine az rfl (λh1=>?_) (λh1=>?_)
 ·refine go ?_;refine aZ aR (xs:=l) (next:=λ_ _ x (_:Unit) hx=>?_);refine go ?_;refine ax (afQ (d:=d) (s:=x) (vh:=vh) (vs:=vs) (vr:=vr) (vc:=vc) (vu:=vu) (by omega)) (next:=λy hy=>?_);obtain⟨n,ok⟩:=y;obtain⟨hy1,hy2⟩:=hy;dsimp only at hy1 hy2;refine go ?_;cases ok with
  |false=>
   refine go ?_;exact ae false (hv:=rfl) (hp:=⟨(λh=>by cases h),λh=>by have:=hy1.2 (h x (bI hx));cases this⟩)
  |true=>
   have hm:=hy1.1 rfl;have hp:=xP hm;have hn:=hy2 rfl;subst hn;have h2:1<<<dR x (bO d)<2^16:=by
    rw[Nat.shiftLeft_eq,yG];exact Jh (by omega) (by omega)
   have h3:=Mi hsl (l.take k) 0 hall (by omega);refine go ?_;refine(fJ rfl rfl (K6 (a:=1) (b:=dR x (bO d)) rfl rfl (by omega) (by omega))).h ?_;refine(fJ rfl rfl (QE (a:=fT (bO d) (l.take k)) (b:=1<<<dR x (bO d)) rfl rfl (Nat.lt_trans h3 (by omega)) (by omega))).h ?_;refine go ?_;refine aQ (k+1) (by omega) ⟨by omega,λs hs'=>?_⟩ (hl:=⟨rfl,by rw[Tu hx];rfl,by repeat (first|exact trivial|refine⟨rfl,?_⟩)⟩);rw[l9,hx]at hs';rcases dX.1 hs' with h|h
   ·exact hall s h
   ·have:s=x:=by simpa using h
    rw[this];exact hm
 have hkl:k=l.length:=by omega
 subst hkl;rw[bK]at hall⊢;refine go ?_;exact ae true (hv:=rfl) (hp:=⟨λ_=>hall,λ_=>rfl⟩)
theorem afT{d:bD}{vh vs vr vc vu:Value}(hrl:d.regions.length<=4096)(hcl:d.aI.length<=4096):
 bz Tryz.prog (.func 125) [.agg ⟨gq d vh vs vr vc vu⟩] [] [] [ah ed vr d.regions,ah bJ vc d.aI] uH (λ_=>[]) (λy=>[l5 (y.e=0) (ah bJ y.v (d.aI.map (kN (bS d))))]) (λy=>y.e=0↔(dH d).Nodup/\∀c∈d.aI,c.on∈bS d):=by
 refine aK _ (aP 125) λB w0=>?_;refine aV (E:=bJ) (v:=vc) (xs:=d.aI) (by simp) λa1 c1 e1=>?_;subst e1;refine go ?_;intro b1;refine bC (eH (b:=b1)) (h:=?_);refine go ?_;refine gz aR ?_;refine bi (λy:Nat×Value=>d.aI.length - y.1) (λy=>[(5,.int .i64 (y.1:Int)),(4,y.2)]) (λy=>[ap aR y.2 ((dH d).take y.1)]) (λ_=>[]) (λy=>y.1<=d.aI.length) (0,.slice none 0 0) (cB _) (hk:=by repeat (first|exact aH.nil|(apply aH.cons;(focus (repeat (first|exact ay.here|apply ay.there)))))) (body:=?_);rintro⟨k,v4⟩ hk;dsimp only at hk⊢;have hil:((dH d).take k).length=k:=by rw[iy];simp[dH];omega
 refine go ?_;refine az rfl (λh1=>?_) (λh1=>?_)
 ·refine go ?_;refine aZ bJ (xs:=d.aI) (next:=λ_ _ x _ hx=>?_);have kK:(dH d)[k]? =some x.name:=by unfold dH;rw[fo,hx];rfl
  refine go ?_;intro Nq;refine go ?_;refine eY aR (xs:=(dH d).take k) x.name () (by omega) (next:=λad=>?_);rw[<- bX kK];refine go ?_;exact aQ (k+1,.slice ad (((dH d).take k).length+1) (((dH d).take k).length+1)) (by show d.aI.length - (k+1)<d.aI.length - k;omega) (by show k+1<=_;omega)
 have hkl:k=d.aI.length:=by omega
 subst hkl;rw[show(dH d).take d.aI.length=dH d from uO (by simp[dH])];refine bC (gy (E:=aR) (v:=v4) (xs:=dH d)) (h:=?_);refine go ?_;refine ax (IP (vl:=v4) (xs:=dH d) (by simp[dH];omega)) (next:=λ_ _=>?_);refine go ?_;refine eO rfl (λh2=>?_) (λh2=>?_)
 ·refine go ?_;refine lD (c:=(161:Int)=0) (f:=ah bJ (.slice none 0 0) (d.aI.map (kN (bS d)))) (by omega) ?_;exact ae ⟨.slice none 0 0,161⟩ (hv:=rfl) (hp:=⟨(λh=>by cases h),λh=>absurd h.1 h2⟩)
 refine go ?_;refine gz bJ ?_;refine bi (λy:Nat×Value=>d.aI.length - y.1) (λy=>[(7,.int .i64 (y.1:Int)),(6,y.2)]) (λy=>[ap bJ y.2 ((d.aI.map (kN (bS d))).take y.1)]) (λ_=>[]) (λy=>y.1<=d.aI.length/\∀c∈d.aI.take y.1,c.on∈bS d) (0,.slice none 0 0) ⟨cB _,by simp⟩ (hk:=by repeat (first|exact aH.nil|(apply aH.cons;(focus (repeat (first|exact ay.here|apply ay.there)))))) (body:=?_);rintro⟨k,v6⟩ ⟨hk,hall⟩;dsimp only at hk hall⊢;have hil:((d.aI.map (kN (bS d))).take k).length=k:=by rw[iy,bU];omega
 refine go ?_;refine az rfl (λh3=>?_) (λh3=>?_)
 ·refine go ?_;refine aZ bJ (xs:=d.aI) (next:=λ_ _ x (_:Unit) hx=>?_);have hxm:(d.aI.map (kN (bS d)))[k]? =some (kN (bS d) x):=by rw[fo,hx];rfl
  refine go ?_;intro b8;refine go ?_;refine ax (UC (d:=d) (s:=x.on) (vh:=vh) (vs:=vs) (vr:=vr) (vc:=.slice a1 d.aI.length c1) (vu:=vu) hrl) (next:=λy hy=>?_);obtain⟨n,ok⟩:=y;obtain⟨hy1,hy2⟩:=hy;dsimp only at hy1 hy2;refine go ?_;cases ok with
  |false=>
   refine go ?_;refine lD (c:=(160:Int)=0) (f:=ah bJ (.slice none 0 0) (d.aI.map (kN (bS d)))) (by omega) ?_;exact ae ⟨.slice none 0 0,160⟩ (hv:=rfl) (hp:=⟨(λh=>by cases h),λh=>by have:=hy1.2 (h.2 x (bI hx));cases this⟩)
  |true=>
   have hn:=hy2 rfl;subst hn;refine go ?_;intro b54;refine go ?_;refine eY bJ (xs:=(d.aI.map (kN (bS d))).take k) (kN (bS d) x) () (by omega) (next:=λad=>?_);rw[<- bX hxm];refine go ?_;refine aQ (k+1,.slice ad (((d.aI.map (kN (bS d))).take k).length+1) (((d.aI.map (kN (bS d))).take k).length+1)) (by show d.aI.length - (k+1)<d.aI.length - k;omega) ⟨by show k+1<=_;omega,?_⟩;show∀c∈d.aI.take (k+1),c.on∈bS d;rw[bX hx];intro c hc;rcases dX.1 hc with hc|hc
   ·exact hall c hc
   ·rw[bH.1 hc];exact hy1.1 rfl
 have hkl:k=d.aI.length:=by omega
 subst hkl;rw[bK]at hall;rw[show(d.aI.map (kN (bS d))).take d.aI.length=d.aI.map (kN (bS d))from uO (by simp)];refine bC (gy (E:=bJ) (v:=v6) (xs:=d.aI.map (kN (bS d)))) (h:=?_);refine go ?_;refine kJ (c:=(0:Int)=0) (f:=ah bJ v6 (d.aI.map (kN (bS d)))) (by simp) ?_;exact ae ⟨v6,0⟩ (hv:=rfl) (hp:=⟨λ_=>⟨h2,hall⟩,λ_=>rfl⟩)
abbrev RlP(d:bD)(r:aS)(y:aS×Bool):Prop:=(y.2=true↔zz (bO d) (bS d) (dH d) r)/\(y.2=true->y.1=lT (bO d) (bS d) (dH d) r)
theorem afW{d:bD}{r:aS}{vh vs vr vc vu v1 v2:Value}(hs:d.symbols.length<=16)(hrl:d.regions.length<=4096)(hcl:d.aI.length<=4096)(h1:r.names.length<9223372036854775808)(h2:r.others.length<9223372036854775808):
 bz Tryz.prog (.func 171) [.agg ⟨gq d vh vs vr vc vu⟩,.agg ⟨iM r v1 v2⟩] [] [] [ah fA vs d.symbols,ah ed vr d.regions,ah bJ vc d.aI,ah aR v1 r.names,ah aR v2 r.others] (λy:aS×Bool=>.tuple ⟨[.agg ⟨iM y.1 v1 v2⟩,.bool y.2]⟩) (λ_=>[]) (λ_=>[]) (RlP d r):=by
 refine aK _ (aP 171) λB w0=>?_;refine go ?_;intro b2 b3 b4;refine bC (eH (b:=b2)) (h:=?_);refine go ?_;refine eO (p:=r.on=⟨⟨[]⟩⟩) (by show Value.bool _=_;rw[dU]) (λh3=>?_) (λh3=>?_)
 ·refine go ?_;refine ax (UC (d:=d) (s:=r.on) (vh:=vh) (vs:=vs) (vr:=vr) (vc:=vc) (vu:=vu) hrl) (next:=λy hy=>?_);obtain⟨n,ok⟩:=y;obtain⟨hy1,hy2⟩:=hy;dsimp only at hy1 hy2;refine go ?_;cases ok with
  |false=>
   refine go ?_;exact ae ({r with family:=0},false) (hv:=rfl) (hp:=⟨⟨(λh=>by cases h),λh=>by rcases h.on with h|h;exact absurd h h3;have:=hy1.2 h;cases this⟩,(λh=>by cases h)⟩)
  |true=>
   have hon:r.on=⟨⟨[]⟩⟩\/r.on∈bS d:=.inr (hy1.1 rfl);have hn:=hy2 rfl;subst hn;have hfm:(if r.on=⟨⟨[]⟩⟩then(0:Int)else(dR r.on (bS d):Int))=(dR r.on (bS d):Int):=if_neg h3;refine go ?_;refine ax (IQ (d:=d) (l:=r.names) (vh:=vh) (vs:=vs) (vr:=vr) (vc:=vc) (vu:=vu) (vl:=v1) hs h1) (next:=λz1 hz1=>?_);refine go ?_;refine ax (IQ (d:=d) (l:=r.others) (vh:=vh) (vs:=vs) (vr:=vr) (vc:=vc) (vu:=vu) (vl:=v2) hs h2) (next:=λz2 hz2=>?_);refine go ?_;refine eO (p:=r.bW=⟨⟨[]⟩⟩) (by show Value.bool _=_;rw[dU]) (λh4=>?_) (λh4=>?_)
   ·refine go ?_;refine ax (UB (d:=d) (s:=r.bW) (vh:=vh) (vs:=vs) (vr:=vr) (vc:=vc) (vu:=vu) (by omega)) (next:=λy hy=>?_);obtain⟨n,ok⟩:=y;obtain⟨hy1,hy2⟩:=hy;dsimp only at hy1 hy2;refine go ?_;cases ok with
    |false=>
     refine go ?_;exact ae ({r with family:=(dR r.on (bS d):Int),set:=cond z1 (fT (bO d) r.names:Int) 0,other:=cond z2 (fT (bO d) r.others:Int) 0,aG:= -1},false) (hv:=rfl) (hp:=⟨⟨(λh=>by cases h),λh=>by rcases h.bW with h|h;exact absurd h h4;have:=hy1.2 h;cases this⟩,(λh=>by cases h)⟩)
    |true=>
     have hby:r.bW=⟨⟨[]⟩⟩\/r.bW∈dH d:=.inr (hy1.1 rfl);have hn:=hy2 rfl;subst hn;have hcm:(if r.bW=⟨⟨[]⟩⟩then(-1:Int)else(dR r.bW (dH d):Int))=(dR r.bW (dH d):Int):=if_neg h4;refine go ?_;cases z1 with
     |false=>
      refine go ?_;exact ae ({r with family:=(dR r.on (bS d):Int),set:=0,other:=cond z2 (fT (bO d) r.others:Int) 0,aG:=(dR r.bW (dH d):Int)},false) (hv:=rfl) (hp:=⟨⟨(λh=>by cases h),λh=>by have:=hz1.2 h.names;cases this⟩,(λh=>by cases h)⟩)
     |true=>
      cases z2 with
      |false=>
       refine go ?_;exact ae ({r with family:=(dR r.on (bS d):Int),set:=(fT (bO d) r.names:Int),other:=0,aG:=(dR r.bW (dH d):Int)},false) (hv:=rfl) (hp:=⟨⟨(λh=>by cases h),λh=>by have:=hz2.2 h.others;cases this⟩,(λh=>by cases h)⟩)
      |true=>
       refine go ?_;refine ae ({r with family:=(dR r.on (bS d):Int),set:=(fT (bO d) r.names:Int),other:=(fT (bO d) r.others:Int),aG:=(dR r.bW (dH d):Int)},true) (hv:=rfl) (hp:=⟨⟨λ_=>⟨hon,hz1.1 rfl,hz2.1 rfl,hby⟩,λ_=>rfl⟩,λ_=>?_⟩);unfold lT;rw[hfm,hcm]
   ·have hby:r.bW=⟨⟨[]⟩⟩\/r.bW∈dH d:=.inl h4;have hcm:(if r.bW=⟨⟨[]⟩⟩then(-1:Int)else(dR r.bW (dH d):Int))= -1:=if_pos h4;refine go ?_;cases z1 with
    |false=>
     refine go ?_;exact ae ({r with family:=(dR r.on (bS d):Int),set:=0,other:=cond z2 (fT (bO d) r.others:Int) 0,aG:=(-1:Int)},false) (hv:=rfl) (hp:=⟨⟨(λh=>by cases h),λh=>by have:=hz1.2 h.names;cases this⟩,(λh=>by cases h)⟩)
    |true=>
     cases z2 with
     |false=>
      refine go ?_;exact ae ({r with family:=(dR r.on (bS d):Int),set:=(fT (bO d) r.names:Int),other:=0,aG:=(-1:Int)},false) (hv:=rfl) (hp:=⟨⟨(λh=>by cases h),λh=>by have:=hz2.2 h.others;cases this⟩,(λh=>by cases h)⟩)
     |true=>
      refine go ?_;refine ae ({r with family:=(dR r.on (bS d):Int),set:=(fT (bO d) r.names:Int),other:=(fT (bO d) r.others:Int),aG:=(-1:Int)},true) (hv:=rfl) (hp:=⟨⟨λ_=>⟨hon,hz1.1 rfl,hz2.1 rfl,hby⟩,λ_=>rfl⟩,λ_=>?_⟩);unfold lT;rw[hfm,hcm]
 ·have hon:r.on=⟨⟨[]⟩⟩\/r.on∈bS d:=.inl h3;have hfm:(if r.on=⟨⟨[]⟩⟩then(0:Int)else(dR r.on (bS d):Int))=0:=if_pos h3;refine go ?_;refine ax (IQ (d:=d) (l:=r.names) (vh:=vh) (vs:=vs) (vr:=vr) (vc:=vc) (vu:=vu) (vl:=v1) hs h1) (next:=λz1 hz1=>?_);refine go ?_;refine ax (IQ (d:=d) (l:=r.others) (vh:=vh) (vs:=vs) (vr:=vr) (vc:=vc) (vu:=vu) (vl:=v2) hs h2) (next:=λz2 hz2=>?_);refine go ?_;refine eO (p:=r.bW=⟨⟨[]⟩⟩) (by show Value.bool _=_;rw[dU]) (λh4=>?_) (λh4=>?_)
  ·refine go ?_;refine ax (UB (d:=d) (s:=r.bW) (vh:=vh) (vs:=vs) (vr:=vr) (vc:=vc) (vu:=vu) (by omega)) (next:=λy hy=>?_);obtain⟨n,ok⟩:=y;obtain⟨hy1,hy2⟩:=hy;dsimp only at hy1 hy2;refine go ?_;cases ok with
   |false=>
    refine go ?_;exact ae ({r with family:=(0:Int),set:=cond z1 (fT (bO d) r.names:Int) 0,other:=cond z2 (fT (bO d) r.others:Int) 0,aG:= -1},false) (hv:=rfl) (hp:=⟨⟨(λh=>by cases h),λh=>by rcases h.bW with h|h;exact absurd h h4;have:=hy1.2 h;cases this⟩,(λh=>by cases h)⟩)
   |true=>
    have hby:r.bW=⟨⟨[]⟩⟩\/r.bW∈dH d:=.inr (hy1.1 rfl);have hn:=hy2 rfl;subst hn;have hcm:(if r.bW=⟨⟨[]⟩⟩then(-1:Int)else(dR r.bW (dH d):Int))=(dR r.bW (dH d):Int):=if_neg h4;refine go ?_;cases z1 with
    |false=>
     refine go ?_;exact ae ({r with family:=(0:Int),set:=0,other:=cond z2 (fT (bO d) r.others:Int) 0,aG:=(dR r.bW (dH d):Int)},false) (hv:=rfl) (hp:=⟨⟨(λh=>by cases h),λh=>by have:=hz1.2 h.names;cases this⟩,(λh=>by cases h)⟩)
    |true=>
     cases z2 with
     |false=>
      refine go ?_;exact ae ({r with family:=(0:Int),set:=(fT (bO d) r.names:Int),other:=0,aG:=(dR r.bW (dH d):Int)},false) (hv:=rfl) (hp:=⟨⟨(λh=>by cases h),λh=>by have:=hz2.2 h.others;cases this⟩,(λh=>by cases h)⟩)
     |true=>
      refine go ?_;refine ae ({r with family:=(0:Int),set:=(fT (bO d) r.names:Int),other:=(fT (bO d) r.others:Int),aG:=(dR r.bW (dH d):Int)},true) (hv:=rfl) (hp:=⟨⟨λ_=>⟨hon,hz1.1 rfl,hz2.1 rfl,hby⟩,λ_=>rfl⟩,λ_=>?_⟩);unfold lT;rw[hfm,hcm]
  ·have hby:r.bW=⟨⟨[]⟩⟩\/r.bW∈dH d:=.inl h4;have hcm:(if r.bW=⟨⟨[]⟩⟩then(-1:Int)else(dR r.bW (dH d):Int))= -1:=if_pos h4;refine go ?_;cases z1 with
   |false=>
    refine go ?_;exact ae ({r with family:=(0:Int),set:=0,other:=cond z2 (fT (bO d) r.others:Int) 0,aG:=(-1:Int)},false) (hv:=rfl) (hp:=⟨⟨(λh=>by cases h),λh=>by have:=hz1.2 h.names;cases this⟩,(λh=>by cases h)⟩)
   |true=>
    cases z2 with
    |false=>
     refine go ?_;exact ae ({r with family:=(0:Int),set:=(fT (bO d) r.names:Int),other:=0,aG:=(-1:Int)},false) (hv:=rfl) (hp:=⟨⟨(λh=>by cases h),λh=>by have:=hz2.2 h.others;cases this⟩,(λh=>by cases h)⟩)
    |true=>
     refine go ?_;refine ae ({r with family:=(0:Int),set:=(fT (bO d) r.names:Int),other:=(fT (bO d) r.others:Int),aG:=(-1:Int)},true) (hv:=rfl) (hp:=⟨⟨λ_=>⟨hon,hz1.1 rfl,hz2.1 rfl,hby⟩,λ_=>rfl⟩,λ_=>?_⟩);unfold lT;rw[hfm,hcm]
theorem afX{d:bD}{vh vs vr vc vu:Value}(hs:d.symbols.length<=16)(hD:lX d):
 bz Tryz.prog (.func 126) [.agg ⟨gq d vh vs vr vc vu⟩] [] [] [ah fA vs d.symbols,ah ed vr d.regions,ah bJ vc d.aI,ah aY vu d.rules] uH (λ_=>[]) (λy=>[l5 (y.e=0) (ah aY y.v (d.rules.map (lT (bO d) (bS d) (dH d))))]) (λy=>y.e=0↔(mF d).Nodup/\∀r∈d.rules,zz (bO d) (bS d) (dH d) r):=by
 have hrl:=hD.regs;have hcl:=hD.jk;have xZ:=hD.kg;have hrn:=hD.qx;refine aK _ (aP 126) λB w0=>?_;refine aV (E:=aY) (v:=vu) (xs:=d.rules) (by simp) λa1 c1 e1=>?_;subst e1;refine go ?_;intro b1;refine bC (eH (b:=b1)) (h:=?_);refine go ?_;refine gz aR ?_;refine bi (λy:Nat×Value=>d.rules.length - y.1) (λy=>[(5,.int .i64 (y.1:Int)),(4,y.2)]) (λy=>[ap aR y.2 ((mF d).take y.1)]) (λ_=>[]) (λy=>y.1<=d.rules.length) (0,.slice none 0 0) (cB _) (hk:=by repeat (first|exact aH.nil|(apply aH.cons;(focus (repeat (first|exact ay.here|apply ay.there)))))) (body:=?_);rintro⟨k,v4⟩ hk;dsimp only at hk⊢;have hil:((mF d).take k).length=k:=by rw[iy];simp[mF];omega
 refine go ?_;refine az rfl (λh1=>?_) (λh1=>?_)
 ·refine go ?_;refine aZ aY (xs:=d.rules) (next:=λ_ _ x _ hx=>?_);have kK:(mF d)[k]? =some x.name:=by unfold mF;rw[fo,hx];rfl
  refine go ?_;intro Nq;refine go ?_;refine eY aR (xs:=(mF d).take k) x.name () (by omega) (next:=λad=>?_);rw[<- bX kK];refine go ?_;exact aQ (k+1,.slice ad (((mF d).take k).length+1) (((mF d).take k).length+1)) (by show d.rules.length - (k+1)<d.rules.length - k;omega) (by show k+1<=_;omega)
 have hkl:k=d.rules.length:=by omega
 subst hkl;rw[show(mF d).take d.rules.length=mF d from uO (by simp[mF])];refine bC (gy (E:=aR) (v:=v4) (xs:=mF d)) (h:=?_);refine go ?_;refine ax (IP (vl:=v4) (xs:=mF d) (by simp[mF];omega)) (next:=λ_ _=>?_);refine go ?_;refine eO rfl (λh2=>?_) (λh2=>?_)
 ·refine go ?_;refine lD (c:=(161:Int)=0) (f:=ah aY (.slice none 0 0) (d.rules.map (lT (bO d) (bS d) (dH d)))) (by omega) ?_;exact ae ⟨.slice none 0 0,161⟩ (hv:=rfl) (hp:=⟨(λh=>by cases h),λh=>absurd h.1 h2⟩)
 refine go ?_;refine gz aY ?_;generalize hf:lT (bO d) (bS d) (dH d)=f;refine bi (λy:Nat×Value=>d.rules.length - y.1) (λy=>[(7,.int .i64 (y.1:Int)),(6,y.2)]) (λy=>[ap aY y.2 ((d.rules.map f).take y.1)]) (λ_=>[]) (λy=>y.1<=d.rules.length/\∀r∈d.rules.take y.1,zz (bO d) (bS d) (dH d) r) (0,.slice none 0 0) ⟨cB _,by simp⟩ (hk:=by repeat (first|exact aH.nil|(apply aH.cons;(focus (repeat (first|exact ay.here|apply ay.there)))))) (body:=?_);rintro⟨k,v6⟩ ⟨hk,hall⟩;dsimp only at hk hall⊢;have hil:((d.rules.map f).take k).length=k:=by rw[iy,bU];omega
 refine go ?_;refine az rfl (λh3=>?_) (λh3=>?_)
 ·refine go ?_;refine aZ aY (xs:=d.rules) (next:=λ_ _ x (vx:Value×Value) hx=>?_);have hxm:(d.rules.map f)[k]? =some (f x):=by rw[fo,hx];rfl
  have hxl:=hrn x (bI hx);refine go ?_;intro b8;refine ax (afW (d:=d) (r:=x) (vh:=vh) (vs:=vs) (vr:=vr) (vc:=vc) (vu:=.slice a1 d.rules.length c1) (v1:=vx.1) (v2:=vx.2) hs hrl hcl hxl.1 hxl.2) (next:=λy hy=>?_);obtain⟨z,ok⟩:=y;obtain⟨hy1,hy2⟩:=hy;dsimp only at hy1 hy2;refine go ?_;cases ok with
  |false=>
   refine go ?_;refine lD (c:=(160:Int)=0) (f:=ah aY (.slice none 0 0) (d.rules.map f)) (by omega) ?_;exact ae ⟨.slice none 0 0,160⟩ (hv:=rfl) (hp:=⟨(λh=>by cases h),λh=>by have:=hy1.2 (h.2 x (bI hx));cases this⟩)
  |true=>
   have hz:=hy2 rfl;rw[hf]at hz;have hzn:z.names=x.names/\z.others=x.others:=by rw[hz,<- hf];exact⟨rfl,rfl⟩
   refine go ?_;intro b54;refine go ?_;refine fu (ah aR vx.1 z.names) (λw hw=>by rw[hzn.1];exact hw (ah aR vx.1 x.names) (by simp)) ?_;refine fu (ah aR vx.2 z.others) (λw hw=>by rw[hzn.2];exact hw (ah aR vx.2 x.others) (by simp)) ?_;refine eY aY (xs:=(d.rules.map f).take k) z vx (by omega) (next:=λad=>?_);rw[hz,<- bX hxm];refine go ?_;refine aQ (k+1,.slice ad (((d.rules.map f).take k).length+1) (((d.rules.map f).take k).length+1)) (by show d.rules.length - (k+1)<d.rules.length - k;omega) ⟨by show k+1<=_;omega,?_⟩;show∀c∈d.rules.take (k+1),zz (bO d) (bS d) (dH d) c;rw[bX hx];intro c hc;rcases dX.1 hc with hc|hc
   ·exact hall c hc
   ·rw[bH.1 hc];exact hy1.1 rfl
 have hkl:k=d.rules.length:=by omega
 subst hkl;rw[bK]at hall;rw[show(d.rules.map f).take d.rules.length=d.rules.map f from uO (by simp)];refine bC (gy (E:=aY) (v:=v6) (xs:=d.rules.map f)) (h:=?_);refine go ?_;refine kJ (c:=(0:Int)=0) (f:=ah aY v6 (d.rules.map f)) (by simp) ?_;exact ae ⟨v6,0⟩ (hv:=rfl) (hp:=⟨λ_=>⟨h2,hall⟩,λ_=>rfl⟩)
theorem UD{d:bD}{vh vs vr vc vu:Value}(hD:lX d):
 bz Tryz.prog (.func 89) [.agg ⟨gq d vh vs vr vc vu⟩] [] [] (kG d vh vs vr vc vu) (qw d vh vs vr) (λ_=>[]) (nJ d) (zI d):=by
 have hsl:=hD.dO;have hrl:=hD.regs;have hcl:=hD.jk;have xZ:=hD.kg;have hgl:iF.length=8:=rfl;refine aK _ (aP 89) λB w0=>?_;refine aV (E:=fA) (v:=vs) (xs:=d.symbols) (by simp) λa1 c1 e1=>?_;subst e1;refine aV (E:=ed) (v:=vr) (xs:=d.regions) (by simp) λa2 c2 e2=>?_;subst e2;refine go ?_;intro b1 b2;refine go ?_;refine az rfl (λhs=>?_) (λhs=>?_)
 ·refine go ?_;exact ae ⟨false,2,.nilFunc,.nilFunc⟩ (hv:=rfl) (hp:=⟨(λh=>by cases h),λ_=>⟨by show(2:Int)≠0;omega,λh=>by have:=h.dO;omega⟩⟩)
 refine go ?_;refine gz aR ?_;refine bi (λy:Nat×Value=>d.symbols.length - y.1) (λy=>[(5,.int .i64 (y.1:Int)),(4,y.2)]) (λy=>[ap aR y.2 ((bO d).take y.1)]) (λ_=>[]) (λy=>y.1<=d.symbols.length) (0,.slice none 0 0) (cB _) (hk:=by repeat (first|exact aH.nil|(apply aH.cons;(focus (repeat (first|exact ay.here|apply ay.there)))))) (body:=?_);rintro⟨k,v4⟩ hk;dsimp only at hk⊢;have hil:((bO d).take k).length=k:=by rw[iy];simp[bO];omega
 refine go ?_;refine az rfl (λh1=>?_) (λh1=>?_)
 ·refine go ?_;refine aZ fA (xs:=d.symbols) (next:=λ_ _ x _ hx=>?_);have kK:(bO d)[k]? =some x.name:=by unfold bO;rw[fo,hx];rfl
  refine go ?_;intro Nq;refine go ?_;refine eY aR (xs:=(bO d).take k) x.name () (by omega) (next:=λad=>?_);rw[<- bX kK];refine go ?_;exact aQ (k+1,.slice ad (((bO d).take k).length+1) (((bO d).take k).length+1)) (by show d.symbols.length - (k+1)<d.symbols.length - k;omega) (by show k+1<=_;omega)
 have hkl:k=d.symbols.length:=by omega
 subst hkl;rw[show(bO d).take d.symbols.length=bO d from uO (by simp[bO])];refine bC (gy (E:=aR) (v:=v4) (xs:=bO d)) (h:=?_);refine go ?_;refine ax (IP (vl:=v4) (xs:=bO d) (by simp[bO];omega)) (next:=λ_ _=>?_);refine go ?_;refine eO rfl (λk1=>?_) (λk1=>?_)
 ·refine go ?_;exact ae ⟨false,161,.nilFunc,.nilFunc⟩ (hv:=rfl) (hp:=⟨(λh=>by cases h),λ_=>⟨by show(161:Int)≠0;omega,λh=>k1 h.RZ⟩⟩)
 refine go ?_;refine ax UA (next:=λag _=>?_);refine go ?_;refine bi (λy:Nat×Value=>d.regions.length - y.1) (λy=>[(7,.int .i64 (y.1:Int)),(6,y.2)]) (λy=>[ap aR y.2 (iF++(nM d).take y.1)]) (λ_=>[]) (λy=>y.1<=d.regions.length) (0,.slice ag iF.length iF.length) (cB _) (hk:=by rw[List.take_zero,gK];repeat (first|exact aH.nil|(apply aH.cons;(focus (repeat (first|exact ay.here|apply ay.there)))))) (body:=?_);rintro⟨k,v6⟩ hk;dsimp only at hk⊢;have hil:(iF++(nM d).take k).length=8+k:=by rw[gD,iy,hgl];simp[nM];omega
 refine go ?_;refine az rfl (λh1=>?_) (λh1=>?_)
 ·refine go ?_;refine aZ ed (xs:=d.regions) (next:=λ_ _ x (_:Value) hx=>?_);have kK:(nM d)[k]? =some x.name:=by unfold nM;rw[fo,hx];rfl
  refine go ?_;intro Nq;refine go ?_;refine eY aR (xs:=iF++(nM d).take k) x.name () (by omega) (next:=λad=>?_);rw[fq,<- bX kK];refine go ?_;exact aQ (k+1,.slice ad ((iF++(nM d).take k).length+1) ((iF++(nM d).take k).length+1)) (by show d.regions.length - (k+1)<d.regions.length - k;omega) (by show k+1<=_;omega)
 have hkl:k=d.regions.length:=by omega
 subst hkl;rw[show iF++(nM d).take d.regions.length=bS d from by rw[uO (by simp[nM])];rfl];refine bC (gy (E:=aR) (v:=v6) (xs:=bS d)) (h:=?_);refine go ?_;refine ax (IP (vl:=v6) (xs:=bS d) (by simp[bS];omega)) (next:=λ_ _=>?_);refine go ?_;refine eO rfl (λk2=>?_) (λk2=>?_)
 ·refine go ?_;exact ae ⟨false,161,.nilFunc,.nilFunc⟩ (hv:=rfl) (hp:=⟨(λh=>by cases h),λ_=>⟨by show(161:Int)≠0;omega,λh=>k2 h.R3⟩⟩)
 refine go ?_;refine ax (afT (d:=d) (vh:=vh) (vs:=.slice a1 d.symbols.length c1) (vr:=.slice a2 d.regions.length c2) (vc:=vc) (vu:=vu) hrl hcl) (next:=λy hy=>?_);obtain⟨wc,e⟩:=y;dsimp only at hy⊢;refine go ?_;refine az rfl (λk3=>?_) (λk3=>?_)
 ·refine go ?_;exact ae ⟨false,e,.nilFunc,.nilFunc⟩ (hv:=rfl) (hp:=⟨(λh=>by cases h),λ_=>⟨k3,λh=>k3 (hy.2 ⟨h.R4,h.LJ⟩)⟩⟩)
 have he:e=0:=iK.1 k3;subst he;obtain⟨p1,p2⟩:=hy.1 rfl;clear hy k3;refine fu (ah bJ wc (Kd.bF d).aI) (λw hw=>hw (l5 ((0:Int)=0) (ah bJ wc (d.aI.map (kN (bS d))))) (by simp) rfl) ?_;refine go ?_;refine ax (afX (d:=d) (vh:=vh) (vs:=.slice a1 d.symbols.length c1) (vr:=.slice a2 d.regions.length c2) (vc:=vc) (vu:=vu) (by omega) hD) (next:=λy hy=>?_);obtain⟨wu,e⟩:=y;dsimp only at hy⊢;refine go ?_;refine az rfl (λk3=>?_) (λk3=>?_)
 ·refine go ?_;exact ae ⟨false,e,.nilFunc,.nilFunc⟩ (hv:=rfl) (hp:=⟨(λh=>by cases h),λ_=>⟨k3,λh=>k3 (hy.2 ⟨h.R5,h.uw⟩)⟩⟩)
 have he:e=0:=iK.1 k3;subst he;obtain⟨p3,p4⟩:=hy.1 rfl;clear hy k3;refine fu (ah aY wu (Kd.bF d).rules) (λw hw=>hw (l5 ((0:Int)=0) (ah aY wu (d.rules.map (lT (bO d) (bS d) (dH d))))) (by simp) rfl) ?_;refine aV (E:=bJ) (v:=wc) (xs:=(Kd.bF d).aI) (by simp) λa3 c3 e3=>?_;subst e3;refine aV (E:=aY) (v:=wu) (xs:=(Kd.bF d).rules) (by simp) λa4 c4 e4=>?_;subst e4;refine go ?_;refine ae ⟨true,0,.slice a3 (Kd.bF d).aI.length c3,.slice a4 (Kd.bF d).rules.length c4⟩ (hv:=rfl) (hp:=⟨λ_=>⟨rfl,⟨by omega,k1,k2,p1,p2,p3,p4⟩⟩,(λh=>by cases h)⟩) (hF:=?_);show Sub [ah bJ _ (Kd.bF d).aI,ah aY _ (Kd.bF d).rules] _;exact .cons (by simp) (.cons (by simp) .nil)
