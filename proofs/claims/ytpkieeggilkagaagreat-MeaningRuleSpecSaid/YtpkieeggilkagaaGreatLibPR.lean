/-
  Part LibPR.
-/
import Derived.Test.YtpkieeggilkagaaGreatLibER
set_option linter.all false
set_option maxRecDepth 10000
set_option maxHeartbeats 4000000
namespace Go.Proofs.YtpkieeggilkagaaGreat
open Go.Ideal Kd
noncomputable def Wj:gW:=⟨2,[(.tmp 0)],(.seq (kO [kS 0 (.nD (.const vS))]) (.seq (kO [⟨⟨(some 1),none,(.wC 9 8 [vE,vE,vE,vE,vE,vE,vE,vE] [⟨0,⟨1,(.const (.string ⟨⟨[99,101,108,108,115]⟩⟩))⟩⟩,⟨1,⟨1,(.const (.string ⟨⟨[114,111,119,115]⟩⟩))⟩⟩,⟨2,⟨1,(.const (.string ⟨⟨[99,111,108,117,109,110,115]⟩⟩))⟩⟩,⟨3,⟨1,(.const (.string ⟨⟨[100,105,97,103,111,110,97,108,115]⟩⟩))⟩⟩,⟨4,⟨1,(.const (.string ⟨⟨[97,114,111,117,110,100]⟩⟩))⟩⟩,⟨5,⟨1,(.const (.string ⟨⟨[110,101,97,114]⟩⟩))⟩⟩,⟨6,⟨1,(.const (.string ⟨⟨[112,97,105,114,115]⟩⟩))⟩⟩,⟨7,⟨1,(.const (.string ⟨⟨[97,108,108]⟩⟩))⟩⟩])⟩,[]⟩,kS 0 (.nD 1)]) .ret))⟩
theorem ahI:nV Tryz.prog 164=some Wj:=by kernel_rfl
theorem Ga{s:ByteArray}:∀{l:List ByteArray} {k:Nat},l[k]? =some s->s∉l.take k->dY s l=k
 |[],k,h,_=>by simp at h
 |a::l,0,h,_=>by
  have h:a=s:=by simpa using h
  unfold dY;rw[if_pos h.symm]
 |a::l,k+1,h,hn=>by
  have h:l[k]? =some s:=by simpa using h
  rw[List.take_succ_cons,dG,not_or]at hn;unfold dY;rw[if_neg hn.1,Ga h hn.2]
theorem Wl{α:Type}{xs:List α}{k:Nat}{x:α}(hx:xs[k]? =some x):(xs.take (k+1)).Nodup↔(xs.take k).Nodup/\x∉xs.take k:=by
 rw[bS hx,iq];constructor
 ·rintro⟨h1,_,h2⟩;exact⟨h1,λh=>h2 x h x (bM.2 rfl) rfl⟩
 ·rintro⟨h1,h2⟩;exact⟨h1,by simp,λa ha b hb e=>h2 (by rw[bM.1 hb]at e;rw[<- e];exact ha)⟩
theorem J2{vl:Value}{xs:List ByteArray}(hl:xs.length<9223372036854775808):bV Tryz.prog 163 [vl] [ah bF vl xs] (.bool (!decide xs.Nodup)):=by
 refine aC _ (aF 163) λB w0=>?_;refine aT (E:=bF) (v:=vl) (xs:=xs) (by simp) λa1 c1 e1=>?_;subst e1;refine go ?_;refine aR (λk=>xs.length - k) (λk:Nat=>[(3,.int .i64 (k:Int))]) (λ_=>[]) (λ_=>[]) (λk=>k<=xs.length/\(xs.take k).Nodup) 0 ⟨by omega,by simp⟩ (body:=?_);rintro k ⟨hk,hnd⟩;refine go ?_;refine ay rfl (λh1=>?_) (λh1=>?_)
 ·have hx:xs[k]? =some (xs[k]'(by omega)):=bN _;generalize xs[k]'(by omega)=x at hx;refine go ?_;refine aR (λj=>k - j) (λj:Nat=>[(4,.int .i64 (j:Int))]) (λ_=>[]) (λ_=>[]) (λj=>j<=k/\x∉xs.take j) 0 ⟨by omega,by simp⟩ (body:=?_);rintro j ⟨hj,hno⟩;refine go ?_;refine ay rfl (λh2=>?_) (λh2=>?_)
  ·refine go ?_;refine aU bF (xs:=xs) (next:=λ_ _ x' (_:Unit) hx'=>?_);cases hx.symm.trans hx';refine go ?_;refine aU bF (xs:=xs) (next:=λ_ _ y (_:Unit) hy=>?_);refine go ?_;refine iZ rfl (λh3=>?_) (λh3=>?_)
   ·rw[eO]at h3;have h3:=iw h3;subst h3;refine go ?_;refine ae () (hv:=?_) (hp:=trivial);rw[aS (λhn=>by
     have h4:(xs.take (k+1)).Nodup:=hn.sublist (DR _ _);rw[Wl hx]at h4;exact h4.2 (vz.2 ⟨j,by rw[vw,if_pos (by omega)];exact hy⟩))];rfl
   ·rw[eO]at h3;have h3:=mK h3;refine go ?_;refine aD (j+1) (by omega) ⟨by omega,?_⟩;rw[bS hy,dB,not_or];exact⟨hno,by simp;exact h3⟩
  have hjk:j=k:=by omega
  subst hjk;refine go ?_;exact aD (j+1) (by omega) ⟨by omega,(Wl hx).2 ⟨hnd,hno⟩⟩
 have hkl:k=xs.length:=by omega
 subst hkl;rw[bC]at hnd;refine go ?_;refine ae () (hv:=?_) (hp:=trivial);rw[dQ hnd];rfl
theorem Wm:aV Tryz.prog (.func 164) [] [] [] [] (λa:Option Addr=>.slice a iQ.length iQ.length) (λa=>[ap bF (.slice a iQ.length iQ.length) iQ]) (λ_=>[]) (λ_=>True):=by
 refine aC Wj ahI λB w0=>?_;refine go ?_;intro b;refine go ?_;refine uN (b:=b) (m:=iQ.length) (f:=0) bF (aO:=iQ.map λs=>(s,())) rfl (.inl rfl) ?_ (hk:=aA.here);refine ac9 (E:=bF) (aO:=iQ.map λs=>(s,())) (by decide) ?_ (λw hw p hp f hf=>by cases hf);show R _ _ _ [ap bF (.slice (some ⟨b,0,some 0⟩) iQ.length iQ.length) iQ] _;exact ae (some ⟨b,0,some 0⟩) (hv:=rfl) (hp:=trivial)
def O5(s:ByteArray)(l:List ByteArray)(y:Nat×Bool):Prop:=(y.2=true↔s∈l)/\(y.2=true->dY s l=y.1)
abbrev O6(y:Nat×Bool):Value:=.tuple ⟨[.int .i64 (y.1:Int),.bool y.2]⟩
theorem ahJ{d:bG}{s:ByteArray}{vh vs vr vc vu:Value}(hl:d.symbols.length<9223372036854775808):aV Tryz.prog (.func 276) [.agg ⟨gI d vh vs vr vc vu⟩,.string s] [] [] [ah fo vs d.symbols] O6 (λ_=>[]) (λ_=>[]) (O5 s (bP d)):=by
 refine aC _ (aF 276) λB w0=>?_;refine aT (E:=fo) (v:=vs) (xs:=d.symbols) (by simp) λa1 c1 e1=>?_;subst e1;refine go ?_;intro b1;refine go ?_;refine aR (λk=>d.symbols.length - k) (λk:Nat=>[(6,.int .i64 (k:Int))]) (λ_=>[]) (λ_=>[]) (λk=>k<=d.symbols.length/\s∉(bP d).take k) 0 ⟨by omega,by simp⟩ (body:=?_);rintro k ⟨hk,hno⟩;refine go ?_;refine ay rfl (λh1=>?_) (λh1=>?_)
 ·refine go ?_;refine aU fo (xs:=d.symbols) (next:=λ_ _ x _ hx=>?_);have lQ:(bP d)[k]? =some x.name:=by unfold bP;rw[fw,hx];rfl
  refine go ?_;refine iZ rfl (λh2=>?_) (λh2=>?_)
  ·rw[eO]at h2;have h2:=iw h2;subst h2;refine go ?_;exact ae (k,true) (hv:=rfl) (hp:=⟨⟨λ_=>aP lQ,λ_=>rfl⟩,λ_=>Ga lQ hno⟩)
  ·rw[eO]at h2;have h2:=mK h2;refine go ?_;refine aD (k+1) (by omega) ⟨by omega,?_⟩;rw[bS lQ,dB,not_or];exact⟨hno,by simp;exact λe=>h2 e.symm⟩
 have hkl:k=d.symbols.length:=by omega
 subst hkl;rw[show(bP d).take d.symbols.length=bP d from wB (by simp[bP])]at hno;refine go ?_;exact ae (0,false) (hv:=rfl) (hp:=⟨⟨(λh=>by cases h),λh=>absurd h hno⟩,(λh=>by cases h)⟩)
theorem Wn{d:bG}{s:ByteArray}{vh vs vr vc vu:Value}(hl:d.aM.length<9223372036854775808):aV Tryz.prog (.func 256) [.agg ⟨gI d vh vs vr vc vu⟩,.string s] [] [] [ah bI vc d.aM] O6 (λ_=>[]) (λ_=>[]) (O5 s (dM d)):=by
 refine aC _ (aF 256) λB w0=>?_;refine aT (E:=bI) (v:=vc) (xs:=d.aM) (by simp) λa1 c1 e1=>?_;subst e1;refine go ?_;intro b1;refine go ?_;refine aR (λk=>d.aM.length - k) (λk:Nat=>[(6,.int .i64 (k:Int))]) (λ_=>[]) (λ_=>[]) (λk=>k<=d.aM.length/\s∉(dM d).take k) 0 ⟨by omega,by simp⟩ (body:=?_);rintro k ⟨hk,hno⟩;refine go ?_;refine ay rfl (λh1=>?_) (λh1=>?_)
 ·refine go ?_;refine aU bI (xs:=d.aM) (next:=λ_ _ x _ hx=>?_);have lQ:(dM d)[k]? =some x.name:=by unfold dM;rw[fw,hx];rfl
  refine go ?_;refine iZ rfl (λh2=>?_) (λh2=>?_)
  ·rw[eO]at h2;have h2:=iw h2;subst h2;refine go ?_;exact ae (k,true) (hv:=rfl) (hp:=⟨⟨λ_=>aP lQ,λ_=>rfl⟩,λ_=>Ga lQ hno⟩)
  ·rw[eO]at h2;have h2:=mK h2;refine go ?_;refine aD (k+1) (by omega) ⟨by omega,?_⟩;rw[bS lQ,dB,not_or];exact⟨hno,by simp;exact λe=>h2 e.symm⟩
 have hkl:k=d.aM.length:=by omega
 subst hkl;rw[show(dM d).take d.aM.length=dM d from wB (by simp[dM])]at hno;refine go ?_;exact ae (0,false) (hv:=rfl) (hp:=⟨⟨(λh=>by cases h),λh=>absurd h hno⟩,(λh=>by cases h)⟩)
def oP(d:bG):List ByteArray:=d.regions.map (·.name)
theorem ahK{s:ByteArray}{a b:List ByteArray}(h:s∉a):dY s (a++b)=a.length+dY s b:=by
 induction a with
 |nil=>simp
 |cons x a ih=>
  rw[dG,not_or]at h;show(if s=x then 0 else dY s (a++b)+1)=_;rw[if_neg h.1,ih h.2,oV];omega
theorem ahL{s:ByteArray}{a b:List ByteArray}(h:s∈a):dY s (a++b)=dY s a:=by
 induction a with
 |nil=>cases h
 |cons x a ih=>
  show(if s=x then 0 else dY s (a++b)+1)=if s=x then 0 else dY s a+1
  by_cases e:s=x
  ·rw[if_pos e,if_pos e]
  ·rw[if_neg e,if_neg e,ih ((dG.1 h).resolve_left e)]
theorem Wo{d:bG}{s:ByteArray}{vh vs vr vc vu:Value}(hl:d.regions.length<=4096):aV Tryz.prog (.func 205) [.agg ⟨gI d vh vs vr vc vu⟩,.string s] [] [] [ah fA vr d.regions] O6 (λ_=>[]) (λ_=>[]) (O5 s (bX d)):=by
 have hgl:iQ.length=8:=rfl;refine aC _ (aF 205) λB w0=>?_;refine aT (E:=fA) (v:=vr) (xs:=d.regions) (by simp) λa1 c1 e1=>?_;subst e1;refine go ?_;intro b1;refine go ?_;refine aj Wm (next:=λag _=>?_);refine aW (fG (E:=bF) (v:=.slice ag iQ.length iQ.length) (xs:=iQ)) (h:=?_);refine go ?_;refine aR (λk=>iQ.length - k) (λk:Nat=>[(7,.int .i64 (k:Int))]) (λ_=>[]) (λ_=>[]) (λk=>k<=iQ.length/\s∉iQ.take k) 0 ⟨by omega,by simp⟩ (body:=?_);rintro k ⟨hk,hno⟩;refine go ?_;refine ay rfl (λh1=>?_) (λh1=>?_)
 ·refine go ?_;refine aU bF (xs:=iQ) (next:=λ_ _ x (_:Unit) hx=>?_);refine go ?_;refine iZ rfl (λh2=>?_) (λh2=>?_)
  ·rw[eO]at h2;have h2:=iw h2;subst h2;refine go ?_;exact ae (k,true) (hv:=rfl) (hp:=⟨⟨λ_=>kZ _ (aP hx),λ_=>rfl⟩,λ_=>(ahL (aP hx)).trans (Ga hx hno)⟩)
  ·rw[eO]at h2;have h2:=mK h2;refine go ?_;refine aD (k+1) (by omega) ⟨by omega,?_⟩;rw[bS hx,dB,not_or];exact⟨hno,by simp;exact λe=>h2 e.symm⟩
 have hkl:k=iQ.length:=by omega
 subst hkl;rw[bC]at hno;have wR:=hno;clear hno hk h1;refine go ?_;refine aR (λk=>d.regions.length - k) (λk:Nat=>[(8,.int .i64 (k:Int))]) (λ_=>[]) (λ_=>[]) (λk=>k<=d.regions.length/\s∉(oP d).take k) 0 ⟨by omega,by simp⟩ (body:=?_);rintro k ⟨hk,hno⟩;refine go ?_;refine ay rfl (λh1=>?_) (λh1=>?_)
 ·refine go ?_;refine aU fA (xs:=d.regions) (next:=λ_ _ x (_:Value) hx=>?_);have lQ:(oP d)[k]? =some x.name:=by unfold oP;rw[fw,hx];rfl
  refine go ?_;refine iZ rfl (λh2=>?_) (λh2=>?_)
  ·rw[eO]at h2;have h2:=iw h2;subst h2;refine go ?_;refine ae (8+k,true) (hv:=?_) (hp:=⟨⟨λ_=>qp _ (aP lQ),λ_=>rfl⟩,λ_=>(ahK wR).trans ?_⟩)
   ·show Value.tuple ⟨[.int .i64 (8+(k:Int)),.bool true]⟩=.tuple ⟨[.int .i64 ((8+k:Nat):Int),.bool true]⟩;rw[show((8+k:Nat):Int)=8+(k:Int)by omega]
   ·have:=Ga lQ hno;unfold oP at this;rw[this];rfl
  ·rw[eO]at h2;have h2:=mK h2;refine go ?_;refine aD (k+1) (by omega) ⟨by omega,?_⟩;rw[bS lQ,dB,not_or];exact⟨hno,by simp;exact λe=>h2 e.symm⟩
 have hkl:k=d.regions.length:=by omega
 subst hkl;rw[show(oP d).take d.regions.length=oP d from wB (by simp[oP])]at hno;refine go ?_;exact ae (0,false) (hv:=rfl) (hp:=⟨⟨(λh=>by cases h),λh=>by
  rcases dB.1 h with h|h
  ·exact absurd h wR
  ·exact absurd h hno⟩,(λh=>by cases h)⟩)
theorem J3{d:bG}{l:List ByteArray}{vh vs vr vc vu vl:Value}(hs:d.symbols.length<=16)(hl:l.length<9223372036854775808):
 aV Tryz.prog (.func 255) [.agg ⟨gI d vh vs vr vc vu⟩,vl] [] [] [ah fo vs d.symbols,ah bF vl l] (λy:Bool=>.tuple ⟨[.int .i64 (cond y (fO (bP d) l:Int) 0),.bool y]⟩) (λ_=>[]) (λ_=>[]) (λy=>y=true↔∀s∈l,s∈bP d):=by
 have hsl:(bP d).length<=16:=by simp[bP];exact hs
 refine aC _ (aF 255) λB w0=>?_;refine aT (E:=bF) (v:=vl) (xs:=l) (by simp) λa1 c1 e1=>?_;subst e1;refine go ?_;intro b1;refine go ?_;refine aR (λk=>l.length - k) (λk:Nat=>[(7,.int .i64 (k:Int)),(6,.int .i64 (fO (bP d) (l.take k):Int))]) (λ_=>[]) (λ_=>[]) (λk=>k<=l.length/\∀s∈l.take k,s∈bP d) 0 ⟨bJ _,by simp⟩ (body:=?_);rintro k ⟨hk,hall⟩;refine go ?_;refine ay rfl (λh1=>?_) (λh1=>?_)
 ·refine go ?_;refine aU bF (xs:=l) (next:=λ_ _ x (_:Unit) hx=>?_);refine go ?_;refine aj (ahJ (d:=d) (s:=x) (by omega)) (next:=λy hy=>?_);obtain⟨n,ok⟩:=y;obtain⟨hy1,hy2⟩:=hy;dsimp only at hy1 hy2;refine go ?_;cases ok with
  |false=>
   refine go ?_;exact ae false (hv:=rfl) (hp:=⟨(λh=>by cases h),λh=>by have:=hy1.2 (h x (aP hx));cases this⟩)
  |true=>
   have hm:=hy1.1 rfl;have hp:=xB hm;have hn:=hy2 rfl;subst hn;have h2:1<<<dY x (bP d)<2^16:=by
    rw[DD,ug];exact Gm (by omega) (by omega)
   have h3:=Oa hsl (l.take k) 0 hall (by omega);refine go ?_;refine(gH rfl rfl (IL (a:=1) (b:=dY x (bP d)) rfl rfl (by omega) (by omega))).h ?_;refine(gH rfl rfl (MI (a:=fO (bP d) (l.take k)) (b:=1<<<dY x (bP d)) rfl rfl (Nat.lt_trans h3 (by omega)) (by omega))).h ?_;refine go ?_;refine aD (k+1) (by omega) ⟨by omega,λs hs'=>?_⟩ (hl:=⟨rfl,by rw[Vo hx];rfl,by repeat (first|exact trivial|refine⟨rfl,?_⟩)⟩);rw[nS,hx]at hs';rcases dB.1 hs' with h|h
   ·exact hall s h
   ·have:s=x:=by simpa using h
    rw[this];exact hm
 have hkl:k=l.length:=by omega
 subst hkl;rw[bC]at hall⊢;refine go ?_;exact ae true (hv:=rfl) (hp:=⟨λ_=>hall,λ_=>rfl⟩)
theorem ahM{d:bG}{vh vs vr vc vu:Value}(hrl:d.regions.length<=4096)(hcl:d.aM.length<=4096):
 aV Tryz.prog (.func 165) [.agg ⟨gI d vh vs vr vc vu⟩] [] [] [ah fA vr d.regions,ah bI vc d.aM] tT (λ_=>[]) (λy=>[kX (y.e=0) (ah bI y.v (d.aM.map (lW (bX d))))]) (λy=>y.e=0↔(dM d).Nodup/\∀c∈d.aM,c.on∈bX d):=by
 refine aC _ (aF 165) λB w0=>?_;refine aT (E:=bI) (v:=vc) (xs:=d.aM) (by simp) λa1 c1 e1=>?_;subst e1;refine go ?_;intro b1;refine aW (eB (b:=b1)) (h:=?_);refine go ?_;refine fJ bF ?_;refine aR (λy:Nat×Value=>d.aM.length - y.1) (λy=>[(5,.int .i64 (y.1:Int)),(4,y.2)]) (λy=>[ap bF y.2 ((dM d).take y.1)]) (λ_=>[]) (λy=>y.1<=d.aM.length) (0,.slice none 0 0) (bJ _) (hk:=by repeat (first|exact aJ.nil|(apply aJ.cons;(focus (repeat (first|exact aA.here|apply aA.there)))))) (body:=?_);rintro⟨k,v4⟩ hk;dsimp only at hk⊢;have hil:((dM d).take k).length=k:=by rw[gL];simp[dM];omega
 refine go ?_;refine ay rfl (λh1=>?_) (λh1=>?_)
 ·refine go ?_;refine aU bI (xs:=d.aM) (next:=λ_ _ x _ hx=>?_);have lQ:(dM d)[k]? =some x.name:=by unfold dM;rw[fw,hx];rfl
  refine go ?_;intro O7;refine go ?_;refine eG bF (xs:=(dM d).take k) x.name () (by omega) (next:=λad=>?_);rw[<- bS lQ];refine go ?_;exact aD (k+1,.slice ad (((dM d).take k).length+1) (((dM d).take k).length+1)) (by show d.aM.length - (k+1)<d.aM.length - k;omega) (by show k+1<=_;omega)
 have hkl:k=d.aM.length:=by omega
 subst hkl;rw[show(dM d).take d.aM.length=dM d from wB (by simp[dM])];refine aW (fG (E:=bF) (v:=v4) (xs:=dM d)) (h:=?_);refine go ?_;refine aj (J2 (vl:=v4) (xs:=dM d) (by simp[dM];omega)) (next:=λ_ _=>?_);refine go ?_;refine eX rfl (λh2=>?_) (λh2=>?_)
 ·refine go ?_;refine kY (c:=(161:Int)=0) (f:=ah bI (.slice none 0 0) (d.aM.map (lW (bX d)))) (by omega) ?_;exact ae ⟨.slice none 0 0,161⟩ (hv:=rfl) (hp:=⟨(λh=>by cases h),λh=>absurd h.1 h2⟩)
 refine go ?_;refine fJ bI ?_;refine aR (λy:Nat×Value=>d.aM.length - y.1) (λy=>[(7,.int .i64 (y.1:Int)),(6,y.2)]) (λy=>[ap bI y.2 ((d.aM.map (lW (bX d))).take y.1)]) (λ_=>[]) (λy=>y.1<=d.aM.length/\∀c∈d.aM.take y.1,c.on∈bX d) (0,.slice none 0 0) ⟨bJ _,by simp⟩ (hk:=by repeat (first|exact aJ.nil|(apply aJ.cons;(focus (repeat (first|exact aA.here|apply aA.there)))))) (body:=?_);rintro⟨k,v6⟩ ⟨hk,hall⟩;dsimp only at hk hall⊢;have hil:((d.aM.map (lW (bX d))).take k).length=k:=by rw[gL,dV];omega
 refine go ?_;refine ay rfl (λh3=>?_) (λh3=>?_)
 ·refine go ?_;refine aU bI (xs:=d.aM) (next:=λ_ _ x (_:Unit) hx=>?_);have hxm:(d.aM.map (lW (bX d)))[k]? =some (lW (bX d) x):=by rw[fw,hx];rfl
  refine go ?_;intro b8;refine go ?_;refine aj (Wo (d:=d) (s:=x.on) (vc:=.slice a1 d.aM.length c1) (vu:=vu) hrl) (next:=λy hy=>?_);obtain⟨n,ok⟩:=y;obtain⟨hy1,hy2⟩:=hy;dsimp only at hy1 hy2;refine go ?_;cases ok with
  |false=>
   refine go ?_;refine kY (c:=(160:Int)=0) (f:=ah bI (.slice none 0 0) (d.aM.map (lW (bX d)))) (by omega) ?_;exact ae ⟨.slice none 0 0,160⟩ (hv:=rfl) (hp:=⟨(λh=>by cases h),λh=>by have:=hy1.2 (h.2 x (aP hx));cases this⟩)
  |true=>
   have hn:=hy2 rfl;subst hn;refine go ?_;intro b54;refine go ?_;refine eG bI (xs:=(d.aM.map (lW (bX d))).take k) (lW (bX d) x) () (by omega) (next:=λad=>?_);rw[<- bS hxm];refine go ?_;refine aD (k+1,.slice ad (((d.aM.map (lW (bX d))).take k).length+1) (((d.aM.map (lW (bX d))).take k).length+1)) (by show d.aM.length - (k+1)<d.aM.length - k;omega) ⟨by show k+1<=_;omega,?_⟩;show∀c∈d.aM.take (k+1),c.on∈bX d;rw[bS hx];intro c hc;rcases dB.1 hc with hc|hc
   ·exact hall c hc
   ·rw[bM.1 hc];exact hy1.1 rfl
 have hkl:k=d.aM.length:=by omega
 subst hkl;rw[bC]at hall;rw[show(d.aM.map (lW (bX d))).take d.aM.length=d.aM.map (lW (bX d))from wB (by simp)];refine aW (fG (E:=bI) (v:=v6) (xs:=d.aM.map (lW (bX d)))) (h:=?_);refine go ?_;refine kJ (c:=(0:Int)=0) (f:=ah bI v6 (d.aM.map (lW (bX d)))) (by simp) ?_;exact ae ⟨v6,0⟩ (hv:=rfl) (hp:=⟨λ_=>⟨h2,hall⟩,λ_=>rfl⟩)
abbrev RlP(d:bG)(r:bB)(y:bB×Bool):Prop:=(y.2=true↔AB (bP d) (bX d) (dM d) r)/\(y.2=true->y.1=mR (bP d) (bX d) (dM d) r)
theorem ahP{d:bG}{r:bB}{vh vs vr vc vu v1 v2:Value}(hs:d.symbols.length<=16)(hrl:d.regions.length<=4096)(hcl:d.aM.length<=4096)(h1:r.names.length<9223372036854775808)(h2:r.others.length<9223372036854775808):
 aV Tryz.prog (.func 206) [.agg ⟨gI d vh vs vr vc vu⟩,.agg ⟨gY r v1 v2⟩] [] [] [ah fo vs d.symbols,ah fA vr d.regions,ah bI vc d.aM,ah bF v1 r.names,ah bF v2 r.others] (λy:bB×Bool=>.tuple ⟨[.agg ⟨gY y.1 v1 v2⟩,.bool y.2]⟩) (λ_=>[]) (λ_=>[]) (RlP d r):=by
 refine aC _ (aF 206) λB w0=>?_;refine go ?_;intro b2 b3 b4;refine aW (eB (b:=b2)) (h:=?_);refine go ?_;refine eX (p:=r.on=⟨⟨[]⟩⟩) (by show Value.bool _=_;rw[eO]) (λh3=>?_) (λh3=>?_)
 ·refine go ?_;refine aj (Wo (d:=d) (s:=r.on) hrl) (next:=λy hy=>?_);obtain⟨n,ok⟩:=y;obtain⟨hy1,hy2⟩:=hy;dsimp only at hy1 hy2;refine go ?_;cases ok with
  |false=>
   refine go ?_;exact ae ({r with family:=0},false) (hv:=rfl) (hp:=⟨⟨(λh=>by cases h),λh=>by rcases h.on with h|h;exact absurd h h3;have:=hy1.2 h;cases this⟩,(λh=>by cases h)⟩)
  |true=>
   have hon:r.on=⟨⟨[]⟩⟩\/r.on∈bX d:=.inr (hy1.1 rfl);have hn:=hy2 rfl;subst hn;have hfm:(if r.on=⟨⟨[]⟩⟩then(0:Int)else(dY r.on (bX d):Int))=(dY r.on (bX d):Int):=if_neg h3;refine go ?_;refine aj (J3 (d:=d) (l:=r.names) (vl:=v1) hs h1) (next:=λz1 hz1=>?_);refine go ?_;refine aj (J3 (d:=d) (l:=r.others) (vl:=v2) hs h2) (next:=λz2 hz2=>?_);refine go ?_;refine eX (p:=r.dn=⟨⟨[]⟩⟩) (by show Value.bool _=_;rw[eO]) (λh4=>?_) (λh4=>?_)
   ·refine go ?_;refine aj (Wn (d:=d) (s:=r.dn) (by omega)) (next:=λy hy=>?_);obtain⟨n,ok⟩:=y;obtain⟨hy1,hy2⟩:=hy;dsimp only at hy1 hy2;refine go ?_;cases ok with
    |false=>
     refine go ?_;exact ae ({r with family:=(dY r.on (bX d):Int),set:=cond z1 (fO (bP d) r.names:Int) 0,other:=cond z2 (fO (bP d) r.others:Int) 0,aB:= -1},false) (hv:=rfl) (hp:=⟨⟨(λh=>by cases h),λh=>by rcases h.dn with h|h;exact absurd h h4;have:=hy1.2 h;cases this⟩,(λh=>by cases h)⟩)
    |true=>
     have hby:r.dn=⟨⟨[]⟩⟩\/r.dn∈dM d:=.inr (hy1.1 rfl);have hn:=hy2 rfl;subst hn;have hcm:(if r.dn=⟨⟨[]⟩⟩then(-1:Int)else(dY r.dn (dM d):Int))=(dY r.dn (dM d):Int):=if_neg h4;refine go ?_;cases z1 with
     |false=>
      refine go ?_;exact ae ({r with family:=(dY r.on (bX d):Int),set:=0,other:=cond z2 (fO (bP d) r.others:Int) 0,aB:=(dY r.dn (dM d):Int)},false) (hv:=rfl) (hp:=⟨⟨(λh=>by cases h),λh=>by have:=hz1.2 h.names;cases this⟩,(λh=>by cases h)⟩)
     |true=>
      cases z2 with
      |false=>
       refine go ?_;exact ae ({r with family:=(dY r.on (bX d):Int),set:=(fO (bP d) r.names:Int),other:=0,aB:=(dY r.dn (dM d):Int)},false) (hv:=rfl) (hp:=⟨⟨(λh=>by cases h),λh=>by have:=hz2.2 h.others;cases this⟩,(λh=>by cases h)⟩)
      |true=>
       refine go ?_;refine ae ({r with family:=(dY r.on (bX d):Int),set:=(fO (bP d) r.names:Int),other:=(fO (bP d) r.others:Int),aB:=(dY r.dn (dM d):Int)},true) (hv:=rfl) (hp:=⟨⟨λ_=>⟨hon,hz1.1 rfl,hz2.1 rfl,hby⟩,λ_=>rfl⟩,λ_=>?_⟩);unfold mR;rw[hfm,hcm]
   ·have hby:r.dn=⟨⟨[]⟩⟩\/r.dn∈dM d:=.inl h4;have hcm:(if r.dn=⟨⟨[]⟩⟩then(-1:Int)else(dY r.dn (dM d):Int))= -1:=if_pos h4;refine go ?_;cases z1 with
    |false=>
     refine go ?_;exact ae ({r with family:=(dY r.on (bX d):Int),set:=0,other:=cond z2 (fO (bP d) r.others:Int) 0,aB:=(-1:Int)},false) (hv:=rfl) (hp:=⟨⟨(λh=>by cases h),λh=>by have:=hz1.2 h.names;cases this⟩,(λh=>by cases h)⟩)
    |true=>
     cases z2 with
     |false=>
      refine go ?_;exact ae ({r with family:=(dY r.on (bX d):Int),set:=(fO (bP d) r.names:Int),other:=0,aB:=(-1:Int)},false) (hv:=rfl) (hp:=⟨⟨(λh=>by cases h),λh=>by have:=hz2.2 h.others;cases this⟩,(λh=>by cases h)⟩)
     |true=>
      refine go ?_;refine ae ({r with family:=(dY r.on (bX d):Int),set:=(fO (bP d) r.names:Int),other:=(fO (bP d) r.others:Int),aB:=(-1:Int)},true) (hv:=rfl) (hp:=⟨⟨λ_=>⟨hon,hz1.1 rfl,hz2.1 rfl,hby⟩,λ_=>rfl⟩,λ_=>?_⟩);unfold mR;rw[hfm,hcm]
 ·have hon:r.on=⟨⟨[]⟩⟩\/r.on∈bX d:=.inl h3;have hfm:(if r.on=⟨⟨[]⟩⟩then(0:Int)else(dY r.on (bX d):Int))=0:=if_pos h3;refine go ?_;refine aj (J3 (d:=d) (l:=r.names) (vl:=v1) hs h1) (next:=λz1 hz1=>?_);refine go ?_;refine aj (J3 (d:=d) (l:=r.others) (vl:=v2) hs h2) (next:=λz2 hz2=>?_);refine go ?_;refine eX (p:=r.dn=⟨⟨[]⟩⟩) (by show Value.bool _=_;rw[eO]) (λh4=>?_) (λh4=>?_)
  ·refine go ?_;refine aj (Wn (d:=d) (s:=r.dn) (by omega)) (next:=λy hy=>?_);obtain⟨n,ok⟩:=y;obtain⟨hy1,hy2⟩:=hy;dsimp only at hy1 hy2;refine go ?_;cases ok with
   |false=>
    refine go ?_;exact ae ({r with family:=(0:Int),set:=cond z1 (fO (bP d) r.names:Int) 0,other:=cond z2 (fO (bP d) r.others:Int) 0,aB:= -1},false) (hv:=rfl) (hp:=⟨⟨(λh=>by cases h),λh=>by rcases h.dn with h|h;exact absurd h h4;have:=hy1.2 h;cases this⟩,(λh=>by cases h)⟩)
   |true=>
    have hby:r.dn=⟨⟨[]⟩⟩\/r.dn∈dM d:=.inr (hy1.1 rfl);have hn:=hy2 rfl;subst hn;have hcm:(if r.dn=⟨⟨[]⟩⟩then(-1:Int)else(dY r.dn (dM d):Int))=(dY r.dn (dM d):Int):=if_neg h4;refine go ?_;cases z1 with
    |false=>
     refine go ?_;exact ae ({r with family:=(0:Int),set:=0,other:=cond z2 (fO (bP d) r.others:Int) 0,aB:=(dY r.dn (dM d):Int)},false) (hv:=rfl) (hp:=⟨⟨(λh=>by cases h),λh=>by have:=hz1.2 h.names;cases this⟩,(λh=>by cases h)⟩)
    |true=>
     cases z2 with
     |false=>
      refine go ?_;exact ae ({r with family:=(0:Int),set:=(fO (bP d) r.names:Int),other:=0,aB:=(dY r.dn (dM d):Int)},false) (hv:=rfl) (hp:=⟨⟨(λh=>by cases h),λh=>by have:=hz2.2 h.others;cases this⟩,(λh=>by cases h)⟩)
     |true=>
      refine go ?_;refine ae ({r with family:=(0:Int),set:=(fO (bP d) r.names:Int),other:=(fO (bP d) r.others:Int),aB:=(dY r.dn (dM d):Int)},true) (hv:=rfl) (hp:=⟨⟨λ_=>⟨hon,hz1.1 rfl,hz2.1 rfl,hby⟩,λ_=>rfl⟩,λ_=>?_⟩);unfold mR;rw[hfm,hcm]
  ·have hby:r.dn=⟨⟨[]⟩⟩\/r.dn∈dM d:=.inl h4;have hcm:(if r.dn=⟨⟨[]⟩⟩then(-1:Int)else(dY r.dn (dM d):Int))= -1:=if_pos h4;refine go ?_;cases z1 with
   |false=>
    refine go ?_;exact ae ({r with family:=(0:Int),set:=0,other:=cond z2 (fO (bP d) r.others:Int) 0,aB:=(-1:Int)},false) (hv:=rfl) (hp:=⟨⟨(λh=>by cases h),λh=>by have:=hz1.2 h.names;cases this⟩,(λh=>by cases h)⟩)
   |true=>
    cases z2 with
    |false=>
     refine go ?_;exact ae ({r with family:=(0:Int),set:=(fO (bP d) r.names:Int),other:=0,aB:=(-1:Int)},false) (hv:=rfl) (hp:=⟨⟨(λh=>by cases h),λh=>by have:=hz2.2 h.others;cases this⟩,(λh=>by cases h)⟩)
    |true=>
     refine go ?_;refine ae ({r with family:=(0:Int),set:=(fO (bP d) r.names:Int),other:=(fO (bP d) r.others:Int),aB:=(-1:Int)},true) (hv:=rfl) (hp:=⟨⟨λ_=>⟨hon,hz1.1 rfl,hz2.1 rfl,hby⟩,λ_=>rfl⟩,λ_=>?_⟩);unfold mR;rw[hfm,hcm]
theorem ahQ{d:bG}{vh vs vr vc vu:Value}(hs:d.symbols.length<=16)(hD:mZ d):
 aV Tryz.prog (.func 166) [.agg ⟨gI d vh vs vr vc vu⟩] [] [] [ah fo vs d.symbols,ah fA vr d.regions,ah bI vc d.aM,ah aZ vu d.rules] tT (λ_=>[]) (λy=>[kX (y.e=0) (ah aZ y.v (d.rules.map (mR (bP d) (bX d) (dM d))))]) (λy=>y.e=0↔(nN d).Nodup/\∀r∈d.rules,AB (bP d) (bX d) (dM d) r):=by
 have hrl:=hD.regs;have hcl:=hD.jB;have rU:=hD.jP;have hrn:=hD.vY;refine aC _ (aF 166) λB w0=>?_;refine aT (E:=aZ) (v:=vu) (xs:=d.rules) (by simp) λa1 c1 e1=>?_;subst e1;refine go ?_;intro b1;refine aW (eB (b:=b1)) (h:=?_);refine go ?_;refine fJ bF ?_;refine aR (λy:Nat×Value=>d.rules.length - y.1) (λy=>[(5,.int .i64 (y.1:Int)),(4,y.2)]) (λy=>[ap bF y.2 ((nN d).take y.1)]) (λ_=>[]) (λy=>y.1<=d.rules.length) (0,.slice none 0 0) (bJ _) (hk:=by repeat (first|exact aJ.nil|(apply aJ.cons;(focus (repeat (first|exact aA.here|apply aA.there)))))) (body:=?_);rintro⟨k,v4⟩ hk;dsimp only at hk⊢;have hil:((nN d).take k).length=k:=by rw[gL];simp[nN];omega
 refine go ?_;refine ay rfl (λh1=>?_) (λh1=>?_)
 ·refine go ?_;refine aU aZ (xs:=d.rules) (next:=λ_ _ x _ hx=>?_);have lQ:(nN d)[k]? =some x.name:=by unfold nN;rw[fw,hx];rfl
  refine go ?_;intro O7;refine go ?_;refine eG bF (xs:=(nN d).take k) x.name () (by omega) (next:=λad=>?_);rw[<- bS lQ];refine go ?_;exact aD (k+1,.slice ad (((nN d).take k).length+1) (((nN d).take k).length+1)) (by show d.rules.length - (k+1)<d.rules.length - k;omega) (by show k+1<=_;omega)
 have hkl:k=d.rules.length:=by omega
 subst hkl;rw[show(nN d).take d.rules.length=nN d from wB (by simp[nN])];refine aW (fG (E:=bF) (v:=v4) (xs:=nN d)) (h:=?_);refine go ?_;refine aj (J2 (vl:=v4) (xs:=nN d) (by simp[nN];omega)) (next:=λ_ _=>?_);refine go ?_;refine eX rfl (λh2=>?_) (λh2=>?_)
 ·refine go ?_;refine kY (c:=(161:Int)=0) (f:=ah aZ (.slice none 0 0) (d.rules.map (mR (bP d) (bX d) (dM d)))) (by omega) ?_;exact ae ⟨.slice none 0 0,161⟩ (hv:=rfl) (hp:=⟨(λh=>by cases h),λh=>absurd h.1 h2⟩)
 refine go ?_;refine fJ aZ ?_;generalize hf:mR (bP d) (bX d) (dM d)=f;refine aR (λy:Nat×Value=>d.rules.length - y.1) (λy=>[(7,.int .i64 (y.1:Int)),(6,y.2)]) (λy=>[ap aZ y.2 ((d.rules.map f).take y.1)]) (λ_=>[]) (λy=>y.1<=d.rules.length/\∀r∈d.rules.take y.1,AB (bP d) (bX d) (dM d) r) (0,.slice none 0 0) ⟨bJ _,by simp⟩ (hk:=by repeat (first|exact aJ.nil|(apply aJ.cons;(focus (repeat (first|exact aA.here|apply aA.there)))))) (body:=?_);rintro⟨k,v6⟩ ⟨hk,hall⟩;dsimp only at hk hall⊢;have hil:((d.rules.map f).take k).length=k:=by rw[gL,dV];omega
 refine go ?_;refine ay rfl (λh3=>?_) (λh3=>?_)
 ·refine go ?_;refine aU aZ (xs:=d.rules) (next:=λ_ _ x (vx:Value×Value) hx=>?_);have hxm:(d.rules.map f)[k]? =some (f x):=by rw[fw,hx];rfl
  have hxl:=hrn x (aP hx);refine go ?_;intro b8;refine aj (ahP (d:=d) (r:=x) (vu:=.slice a1 d.rules.length c1) (v1:=vx.1) (v2:=vx.2) hs hrl hcl hxl.1 hxl.2) (next:=λy hy=>?_);obtain⟨z,ok⟩:=y;obtain⟨hy1,hy2⟩:=hy;dsimp only at hy1 hy2;refine go ?_;cases ok with
  |false=>
   refine go ?_;refine kY (c:=(160:Int)=0) (f:=ah aZ (.slice none 0 0) (d.rules.map f)) (by omega) ?_;exact ae ⟨.slice none 0 0,160⟩ (hv:=rfl) (hp:=⟨(λh=>by cases h),λh=>by have:=hy1.2 (h.2 x (aP hx));cases this⟩)
  |true=>
   have hz:=hy2 rfl;rw[hf]at hz;have hzn:z.names=x.names/\z.others=x.others:=by rw[hz,<- hf];exact⟨rfl,rfl⟩
   refine go ?_;intro b54;refine go ?_;refine fD (ah bF vx.1 z.names) (λw hw=>by rw[hzn.1];exact hw (ah bF vx.1 x.names) (by simp)) ?_;refine fD (ah bF vx.2 z.others) (λw hw=>by rw[hzn.2];exact hw (ah bF vx.2 x.others) (by simp)) ?_;refine eG aZ (xs:=(d.rules.map f).take k) z vx (by omega) (next:=λad=>?_);rw[hz,<- bS hxm];refine go ?_;refine aD (k+1,.slice ad (((d.rules.map f).take k).length+1) (((d.rules.map f).take k).length+1)) (by show d.rules.length - (k+1)<d.rules.length - k;omega) ⟨by show k+1<=_;omega,?_⟩;show∀c∈d.rules.take (k+1),AB (bP d) (bX d) (dM d) c;rw[bS hx];intro c hc;rcases dB.1 hc with hc|hc
   ·exact hall c hc
   ·rw[bM.1 hc];exact hy1.1 rfl
 have hkl:k=d.rules.length:=by omega
 subst hkl;rw[bC]at hall;rw[show(d.rules.map f).take d.rules.length=d.rules.map f from wB (by simp)];refine aW (fG (E:=aZ) (v:=v6) (xs:=d.rules.map f)) (h:=?_);refine go ?_;refine kJ (c:=(0:Int)=0) (f:=ah aZ v6 (d.rules.map f)) (by simp) ?_;exact ae ⟨v6,0⟩ (hv:=rfl) (hp:=⟨λ_=>⟨h2,hall⟩,λ_=>rfl⟩)
theorem Wp{d:bG}{vh vs vr vc vu:Value}(hD:mZ d):
 aV Tryz.prog (.func 123) [.agg ⟨gI d vh vs vr vc vu⟩] [] [] (mi d vh vs vr vc vu) (rT d vh vs vr) (λ_=>[]) (oO d) (AY d):=by
 have hsl:=hD.cZ;have hrl:=hD.regs;have hcl:=hD.jB;have rU:=hD.jP;have hgl:iQ.length=8:=rfl;refine aC _ (aF 123) λB w0=>?_;refine aT (E:=fo) (v:=vs) (xs:=d.symbols) (by simp) λa1 c1 e1=>?_;subst e1;refine aT (E:=fA) (v:=vr) (xs:=d.regions) (by simp) λa2 c2 e2=>?_;subst e2;refine go ?_;intro b1 b2;refine go ?_;refine ay rfl (λhs=>?_) (λhs=>?_)
 ·refine go ?_;exact ae ⟨false,2,.nilFunc,.nilFunc⟩ (hv:=rfl) (hp:=⟨(λh=>by cases h),λ_=>⟨by show(2:Int)≠0;omega,λh=>by have:=h.cZ;omega⟩⟩)
 refine go ?_;refine fJ bF ?_;refine aR (λy:Nat×Value=>d.symbols.length - y.1) (λy=>[(5,.int .i64 (y.1:Int)),(4,y.2)]) (λy=>[ap bF y.2 ((bP d).take y.1)]) (λ_=>[]) (λy=>y.1<=d.symbols.length) (0,.slice none 0 0) (bJ _) (hk:=by repeat (first|exact aJ.nil|(apply aJ.cons;(focus (repeat (first|exact aA.here|apply aA.there)))))) (body:=?_);rintro⟨k,v4⟩ hk;dsimp only at hk⊢;have hil:((bP d).take k).length=k:=by rw[gL];simp[bP];omega
 refine go ?_;refine ay rfl (λh1=>?_) (λh1=>?_)
 ·refine go ?_;refine aU fo (xs:=d.symbols) (next:=λ_ _ x _ hx=>?_);have lQ:(bP d)[k]? =some x.name:=by unfold bP;rw[fw,hx];rfl
  refine go ?_;intro O7;refine go ?_;refine eG bF (xs:=(bP d).take k) x.name () (by omega) (next:=λad=>?_);rw[<- bS lQ];refine go ?_;exact aD (k+1,.slice ad (((bP d).take k).length+1) (((bP d).take k).length+1)) (by show d.symbols.length - (k+1)<d.symbols.length - k;omega) (by show k+1<=_;omega)
 have hkl:k=d.symbols.length:=by omega
 subst hkl;rw[show(bP d).take d.symbols.length=bP d from wB (by simp[bP])];refine aW (fG (E:=bF) (v:=v4) (xs:=bP d)) (h:=?_);refine go ?_;refine aj (J2 (vl:=v4) (xs:=bP d) (by simp[bP];omega)) (next:=λ_ _=>?_);refine go ?_;refine eX rfl (λk1=>?_) (λk1=>?_)
 ·refine go ?_;exact ae ⟨false,161,.nilFunc,.nilFunc⟩ (hv:=rfl) (hp:=⟨(λh=>by cases h),λ_=>⟨by show(161:Int)≠0;omega,λh=>k1 h.TK⟩⟩)
 refine go ?_;refine aj Wm (next:=λag _=>?_);refine go ?_;refine aR (λy:Nat×Value=>d.regions.length - y.1) (λy=>[(7,.int .i64 (y.1:Int)),(6,y.2)]) (λy=>[ap bF y.2 (iQ++(oP d).take y.1)]) (λ_=>[]) (λy=>y.1<=d.regions.length) (0,.slice ag iQ.length iQ.length) (bJ _) (hk:=by rw[List.take_zero,gV];repeat (first|exact aJ.nil|(apply aJ.cons;(focus (repeat (first|exact aA.here|apply aA.there)))))) (body:=?_);rintro⟨k,v6⟩ hk;dsimp only at hk⊢;have hil:(iQ++(oP d).take k).length=8+k:=by rw[gU,gL,hgl];simp[oP];omega
 refine go ?_;refine ay rfl (λh1=>?_) (λh1=>?_)
 ·refine go ?_;refine aU fA (xs:=d.regions) (next:=λ_ _ x (_:Value) hx=>?_);have lQ:(oP d)[k]? =some x.name:=by unfold oP;rw[fw,hx];rfl
  refine go ?_;intro O7;refine go ?_;refine eG bF (xs:=iQ++(oP d).take k) x.name () (by omega) (next:=λad=>?_);rw[fI,<- bS lQ];refine go ?_;exact aD (k+1,.slice ad ((iQ++(oP d).take k).length+1) ((iQ++(oP d).take k).length+1)) (by show d.regions.length - (k+1)<d.regions.length - k;omega) (by show k+1<=_;omega)
 have hkl:k=d.regions.length:=by omega
 subst hkl;rw[show iQ++(oP d).take d.regions.length=bX d from by rw[wB (by simp[oP])];rfl];refine aW (fG (E:=bF) (v:=v6) (xs:=bX d)) (h:=?_);refine go ?_;refine aj (J2 (vl:=v6) (xs:=bX d) (by simp[bX];omega)) (next:=λ_ _=>?_);refine go ?_;refine eX rfl (λk2=>?_) (λk2=>?_)
 ·refine go ?_;exact ae ⟨false,161,.nilFunc,.nilFunc⟩ (hv:=rfl) (hp:=⟨(λh=>by cases h),λ_=>⟨by show(161:Int)≠0;omega,λh=>k2 h.TL⟩⟩)
 refine go ?_;refine aj (ahM (d:=d) (vh:=vh) (vs:=.slice a1 d.symbols.length c1) (vr:=.slice a2 d.regions.length c2) (vc:=vc) (vu:=vu) hrl hcl) (next:=λy hy=>?_);obtain⟨wc,e⟩:=y;dsimp only at hy⊢;refine go ?_;refine ay rfl (λk3=>?_) (λk3=>?_)
 ·refine go ?_;exact ae ⟨false,e,.nilFunc,.nilFunc⟩ (hv:=rfl) (hp:=⟨(λh=>by cases h),λ_=>⟨k3,λh=>k3 (hy.2 ⟨h.TM,h.Nr⟩)⟩⟩)
 have he:e=0:=gM.1 k3;subst he;obtain⟨p1,p2⟩:=hy.1 rfl;clear hy k3;refine fD (ah bI wc (Kd.bH d).aM) (λw hw=>hw (kX ((0:Int)=0) (ah bI wc (d.aM.map (lW (bX d))))) (by simp) rfl) ?_;refine go ?_;refine aj (ahQ (d:=d) (vh:=vh) (vs:=.slice a1 d.symbols.length c1) (vr:=.slice a2 d.regions.length c2) (vc:=vc) (vu:=vu) (by omega) hD) (next:=λy hy=>?_);obtain⟨wu,e⟩:=y;dsimp only at hy⊢;refine go ?_;refine ay rfl (λk3=>?_) (λk3=>?_)
 ·refine go ?_;exact ae ⟨false,e,.nilFunc,.nilFunc⟩ (hv:=rfl) (hp:=⟨(λh=>by cases h),λ_=>⟨k3,λh=>k3 (hy.2 ⟨h.TN,h.tL⟩)⟩⟩)
 have he:e=0:=gM.1 k3;subst he;obtain⟨p3,p4⟩:=hy.1 rfl;clear hy k3;refine fD (ah aZ wu (Kd.bH d).rules) (λw hw=>hw (kX ((0:Int)=0) (ah aZ wu (d.rules.map (mR (bP d) (bX d) (dM d))))) (by simp) rfl) ?_;refine aT (E:=bI) (v:=wc) (xs:=(Kd.bH d).aM) (by simp) λa3 c3 e3=>?_;subst e3;refine aT (E:=aZ) (v:=wu) (xs:=(Kd.bH d).rules) (by simp) λa4 c4 e4=>?_;subst e4;refine go ?_;refine ae ⟨true,0,.slice a3 (Kd.bH d).aM.length c3,.slice a4 (Kd.bH d).rules.length c4⟩ (hv:=rfl) (hp:=⟨λ_=>⟨rfl,⟨by omega,k1,k2,p1,p2,p3,p4⟩⟩,(λh=>by cases h)⟩) (hF:=?_);show Sub [ah bI _ (Kd.bH d).aM,ah aZ _ (Kd.bH d).rules] _;exact .cons (by simp) (.cons (by simp) .nil)
