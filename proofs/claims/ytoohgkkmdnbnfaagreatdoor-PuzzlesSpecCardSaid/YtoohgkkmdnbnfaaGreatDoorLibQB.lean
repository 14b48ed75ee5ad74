/-
  The reference's names: which names are twice; where a name stands; sets of symbols.
-/
import Derived.Test.YtoohgkkmdnbnfaaGreatDoorLibCB
set_option linter.all false
set_option maxRecDepth 10000
set_option maxHeartbeats 4000000
namespace Go.Proofs.YtoohgkkmdnbnfaaGreatDoor
open Go.Ideal Kd
noncomputable def Ta:gF:=⟨2,[(.tmp 0)],(.seq (.ops [0] [⟨⟨(some 0),none,(.iM (.const (.slice none 0 0)))⟩,[]⟩]) (.seq (.ops [1,0] [⟨⟨(some 1),none,(.uo 9 8 [(.string ⟨⟨[]⟩⟩),(.string ⟨⟨[]⟩⟩),(.string ⟨⟨[]⟩⟩),(.string ⟨⟨[]⟩⟩),(.string ⟨⟨[]⟩⟩),(.string ⟨⟨[]⟩⟩),(.string ⟨⟨[]⟩⟩),(.string ⟨⟨[]⟩⟩)] [⟨0,⟨1,(.const (.string ⟨⟨[99,101,108,108,115]⟩⟩))⟩⟩,⟨1,⟨1,(.const (.string ⟨⟨[114,111,119,115]⟩⟩))⟩⟩,⟨2,⟨1,(.const (.string ⟨⟨[99,111,108,117,109,110,115]⟩⟩))⟩⟩,⟨3,⟨1,(.const (.string ⟨⟨[100,105,97,103,111,110,97,108,115]⟩⟩))⟩⟩,⟨4,⟨1,(.const (.string ⟨⟨[97,114,111,117,110,100]⟩⟩))⟩⟩,⟨5,⟨1,(.const (.string ⟨⟨[110,101,97,114]⟩⟩))⟩⟩,⟨6,⟨1,(.const (.string ⟨⟨[112,97,105,114,115]⟩⟩))⟩⟩,⟨7,⟨1,(.const (.string ⟨⟨[97,108,108]⟩⟩))⟩⟩])⟩,[]⟩,⟨⟨(some 0),none,(.iM (.tmp 1))⟩,[]⟩]) .ret))⟩
theorem ael:kz Tryz.prog 124=some Ta:=by kernel_rfl
theorem Et{s:ByteArray}:∀{l:List ByteArray} {k:Nat},l[k]? =some s->s∉l.take k->dO s l=k
 |[],k,h,_=>by simp at h
 |a::l,0,h,_=>by
  have h:a=s:=by simpa using h
  unfold dO;rw[if_pos h.symm]
 |a::l,k+1,h,hn=>by
  have h:l[k]? =some s:=by simpa using h
  rw[List.take_succ_cons,dF,not_or]at hn;unfold dO;rw[if_neg hn.1,Et h hn.2]
theorem Tc{α:Type}{xs:List α}{k:Nat}{x:α}(hx:xs[k]? =some x):(xs.take (k+1)).Nodup↔(xs.take k).Nodup/\x∉xs.take k:=by
 rw[bV hx,iA];constructor
 ·rintro⟨h1,_,h2⟩;exact⟨h1,λh=>h2 x h x (bG.2 rfl) rfl⟩
 ·rintro⟨h1,h2⟩;exact⟨h1,by simp,λa ha b hb e=>h2 (by rw[bG.1 hb]at e;rw[<- e];exact ha)⟩
theorem GZ{vl:Value}{xs:List ByteArray}(hl:xs.length<9223372036854775808):bY Tryz.prog 123 [vl] [ah aN vl xs] (.bool (!decide xs.Nodup)):=by
 refine aG _ (aM 123) λB w0=>?_;refine aT (E:=aN) (v:=vl) (xs:=xs) (by simp) λa1 c1 e1=>?_;subst e1;refine go ?_;refine aX (λk=>xs.length - k) (λk:Nat=>[(3,.int .i64 (k:Int))]) (λ_=>[]) (λ_=>[]) (λk=>k<=xs.length/\(xs.take k).Nodup) 0 ⟨by omega,by simp⟩ (body:=?_);rintro k ⟨hk,hnd⟩;refine go ?_;refine az rfl (λh1=>?_) (λh1=>?_)
 ·have hx:xs[k]? =some (xs[k]'(by omega)):=cK _;generalize xs[k]'(by omega)=x at hx;refine go ?_;refine aX (λj=>k - j) (λj:Nat=>[(4,.int .i64 (j:Int))]) (λ_=>[]) (λ_=>[]) (λj=>j<=k/\x∉xs.take j) 0 ⟨by omega,by simp⟩ (body:=?_);rintro j ⟨hj,hno⟩;refine go ?_;refine az rfl (λh2=>?_) (λh2=>?_)
  ·refine go ?_;refine aY aN (xs:=xs) (next:=λ_ _ x' (_:Unit) hx'=>?_);cases hx.symm.trans hx';refine go ?_;refine aY aN (xs:=xs) (next:=λ_ _ y (_:Unit) hy=>?_);refine go ?_;refine jJ rfl (λh3=>?_) (λh3=>?_)
   ·rw[dQ]at h3;have h3:=iB h3;subst h3;refine go ?_;refine aa () (hv:=?_) (hp:=trivial);rw[aR (λhn=>by
     have h4:(xs.take (k+1)).Nodup:=hn.sublist (MG _ _);rw[Tc hx]at h4;exact h4.2 (sQ.2 ⟨j,by rw[qw,if_pos (by omega)];exact hy⟩))];rfl
   ·rw[dQ]at h3;have h3:=lY h3;refine go ?_;refine aO (j+1) (by omega) ⟨by omega,?_⟩;rw[bV hy,dZ,not_or];exact⟨hno,by simp;exact h3⟩
  have hjk:j=k:=by omega
  subst hjk;refine go ?_;exact aO (j+1) (by omega) ⟨by omega,(Tc hx).2 ⟨hnd,hno⟩⟩
 have hkl:k=xs.length:=by omega
 subst hkl;rw[bK]at hnd;refine go ?_;refine aa () (hv:=?_) (hp:=trivial);rw[eB hnd];rfl
theorem Td:aZ Tryz.prog (.func 124) [] [] [] [] (λa:Option Addr=>.slice a ik.length ik.length) (λa=>[ap aN (.slice a ik.length ik.length) ik]) (λ_=>[]) (λ_=>True):=by
 refine aG Ta ael λB w0=>?_;refine go ?_;intro b;refine go ?_;refine qU (b:=b) (m:=ik.length) (f:=0) aN (ax:=ik.map λs=>(s,())) rfl (.inl rfl) ?_ (hk:=ay.here);refine ZP (E:=aN) (ax:=ik.map λs=>(s,())) (by decide) ?_ (λw hw p hp f hf=>by cases hf);show R _ _ _ [ap aN (.slice (some ⟨b,0,some 0⟩) ik.length ik.length) ik] _;exact aa (some ⟨b,0,some 0⟩) (hv:=rfl) (hp:=trivial)
def Me(s:ByteArray)(l:List ByteArray)(y:Nat×Bool):Prop:=(y.2=true↔s∈l)/\(y.2=true->dO s l=y.1)
abbrev Mf(y:Nat×Bool):Value:=.tuple ⟨[.int .i64 (y.1:Int),.bool y.2]⟩
theorem aem{d:bq}{s:ByteArray}{vh vs vr vc vu:Value}(hl:d.symbols.length<9223372036854775808):aZ Tryz.prog (.func 269) [.agg ⟨fO d vh vs vr vc vu⟩,.string s] [] [] [ah fu vs d.symbols] Mf (λ_=>[]) (λ_=>[]) (Me s (bN d)):=by
 refine aG _ (aM 269) λB w0=>?_;refine aT (E:=fu) (v:=vs) (xs:=d.symbols) (by simp) λa1 c1 e1=>?_;subst e1;refine go ?_;intro b1;refine go ?_;refine aX (λk=>d.symbols.length - k) (λk:Nat=>[(6,.int .i64 (k:Int))]) (λ_=>[]) (λ_=>[]) (λk=>k<=d.symbols.length/\s∉(bN d).take k) 0 ⟨by omega,by simp⟩ (body:=?_);rintro k ⟨hk,hno⟩;refine go ?_;refine az rfl (λh1=>?_) (λh1=>?_)
 ·refine go ?_;refine aY fu (xs:=d.symbols) (next:=λ_ _ x _ hx=>?_);have kC:(bN d)[k]? =some x.name:=by unfold bN;rw[eY,hx];rfl
  refine go ?_;refine jJ rfl (λh2=>?_) (λh2=>?_)
  ·rw[dQ]at h2;have h2:=iB h2;subst h2;refine go ?_;exact aa (k,true) (hv:=rfl) (hp:=⟨⟨λ_=>bJ kC,λ_=>rfl⟩,λ_=>Et kC hno⟩)
  ·rw[dQ]at h2;have h2:=lY h2;refine go ?_;refine aO (k+1) (by omega) ⟨by omega,?_⟩;rw[bV kC,dZ,not_or];exact⟨hno,by simp;exact λe=>h2 e.symm⟩
 have hkl:k=d.symbols.length:=by omega
 subst hkl;rw[show(bN d).take d.symbols.length=bN d from rG (by simp[bN])]at hno;refine go ?_;exact aa (0,false) (hv:=rfl) (hp:=⟨⟨(λh=>by cases h),λh=>absurd h hno⟩,(λh=>by cases h)⟩)
theorem Te{d:bq}{s:ByteArray}{vh vs vr vc vu:Value}(hl:d.aF.length<9223372036854775808):aZ Tryz.prog (.func 239) [.agg ⟨fO d vh vs vr vc vu⟩,.string s] [] [] [ah bC vc d.aF] Mf (λ_=>[]) (λ_=>[]) (Me s (dD d)):=by
 refine aG _ (aM 239) λB w0=>?_;refine aT (E:=bC) (v:=vc) (xs:=d.aF) (by simp) λa1 c1 e1=>?_;subst e1;refine go ?_;intro b1;refine go ?_;refine aX (λk=>d.aF.length - k) (λk:Nat=>[(6,.int .i64 (k:Int))]) (λ_=>[]) (λ_=>[]) (λk=>k<=d.aF.length/\s∉(dD d).take k) 0 ⟨by omega,by simp⟩ (body:=?_);rintro k ⟨hk,hno⟩;refine go ?_;refine az rfl (λh1=>?_) (λh1=>?_)
 ·refine go ?_;refine aY bC (xs:=d.aF) (next:=λ_ _ x _ hx=>?_);have kC:(dD d)[k]? =some x.name:=by unfold dD;rw[eY,hx];rfl
  refine go ?_;refine jJ rfl (λh2=>?_) (λh2=>?_)
  ·rw[dQ]at h2;have h2:=iB h2;subst h2;refine go ?_;exact aa (k,true) (hv:=rfl) (hp:=⟨⟨λ_=>bJ kC,λ_=>rfl⟩,λ_=>Et kC hno⟩)
  ·rw[dQ]at h2;have h2:=lY h2;refine go ?_;refine aO (k+1) (by omega) ⟨by omega,?_⟩;rw[bV kC,dZ,not_or];exact⟨hno,by simp;exact λe=>h2 e.symm⟩
 have hkl:k=d.aF.length:=by omega
 subst hkl;rw[show(dD d).take d.aF.length=dD d from rG (by simp[dD])]at hno;refine go ?_;exact aa (0,false) (hv:=rfl) (hp:=⟨⟨(λh=>by cases h),λh=>absurd h hno⟩,(λh=>by cases h)⟩)
def mW(d:bq):List ByteArray:=d.regions.map (·.name)
theorem aen{s:ByteArray}{a b:List ByteArray}(h:s∉a):dO s (a++b)=a.length+dO s b:=by
 induction a with
 |nil=>simp
 |cons x a ih=>
  rw[dF,not_or]at h;show(if s=x then 0 else dO s (a++b)+1)=_;rw[if_neg h.1,ih h.2,oq];omega
theorem aeo{s:ByteArray}{a b:List ByteArray}(h:s∈a):dO s (a++b)=dO s a:=by
 induction a with
 |nil=>cases h
 |cons x a ih=>
  show(if s=x then 0 else dO s (a++b)+1)=if s=x then 0 else dO s a+1
  by_cases e:s=x
  ·rw[if_pos e,if_pos e]
  ·rw[if_neg e,if_neg e,ih ((dF.1 h).resolve_left e)]
theorem Tf{d:bq}{s:ByteArray}{vh vs vr vc vu:Value}(hl:d.regions.length<=4096):aZ Tryz.prog (.func 170) [.agg ⟨fO d vh vs vr vc vu⟩,.string s] [] [] [ah dW vr d.regions] Mf (λ_=>[]) (λ_=>[]) (Me s (bQ d)):=by
 have hgl:ik.length=8:=rfl;refine aG _ (aM 170) λB w0=>?_;refine aT (E:=dW) (v:=vr) (xs:=d.regions) (by simp) λa1 c1 e1=>?_;subst e1;refine go ?_;intro b1;refine go ?_;refine ak Td (next:=λag _=>?_);refine bB (gp (E:=aN) (v:=.slice ag ik.length ik.length) (xs:=ik)) (h:=?_);refine go ?_;refine aX (λk=>ik.length - k) (λk:Nat=>[(7,.int .i64 (k:Int))]) (λ_=>[]) (λ_=>[]) (λk=>k<=ik.length/\s∉ik.take k) 0 ⟨by omega,by simp⟩ (body:=?_);rintro k ⟨hk,hno⟩;refine go ?_;refine az rfl (λh1=>?_) (λh1=>?_)
 ·refine go ?_;refine aY aN (xs:=ik) (next:=λ_ _ x (_:Unit) hx=>?_);refine go ?_;refine jJ rfl (λh2=>?_) (λh2=>?_)
  ·rw[dQ]at h2;have h2:=iB h2;subst h2;refine go ?_;exact aa (k,true) (hv:=rfl) (hp:=⟨⟨λ_=>kw _ (bJ hx),λ_=>rfl⟩,λ_=>(aeo (bJ hx)).trans (Et hx hno)⟩)
  ·rw[dQ]at h2;have h2:=lY h2;refine go ?_;refine aO (k+1) (by omega) ⟨by omega,?_⟩;rw[bV hx,dZ,not_or];exact⟨hno,by simp;exact λe=>h2 e.symm⟩
 have hkl:k=ik.length:=by omega
 subst hkl;rw[bK]at hno;have Cf:=hno;clear hno hk h1;refine go ?_;refine aX (λk=>d.regions.length - k) (λk:Nat=>[(8,.int .i64 (k:Int))]) (λ_=>[]) (λ_=>[]) (λk=>k<=d.regions.length/\s∉(mW d).take k) 0 ⟨by omega,by simp⟩ (body:=?_);rintro k ⟨hk,hno⟩;refine go ?_;refine az rfl (λh1=>?_) (λh1=>?_)
 ·refine go ?_;refine aY dW (xs:=d.regions) (next:=λ_ _ x (_:Value) hx=>?_);have kC:(mW d)[k]? =some x.name:=by unfold mW;rw[eY,hx];rfl
  refine go ?_;refine jJ rfl (λh2=>?_) (λh2=>?_)
  ·rw[dQ]at h2;have h2:=iB h2;subst h2;refine go ?_;refine aa (8+k,true) (hv:=?_) (hp:=⟨⟨λ_=>ni _ (bJ kC),λ_=>rfl⟩,λ_=>(aen Cf).trans ?_⟩)
   ·show Value.tuple ⟨[.int .i64 (8+(k:Int)),.bool true]⟩=.tuple ⟨[.int .i64 ((8+k:Nat):Int),.bool true]⟩;rw[show((8+k:Nat):Int)=8+(k:Int)by omega]
   ·have:=Et kC hno;unfold mW at this;rw[this];rfl
  ·rw[dQ]at h2;have h2:=lY h2;refine go ?_;refine aO (k+1) (by omega) ⟨by omega,?_⟩;rw[bV kC,dZ,not_or];exact⟨hno,by simp;exact λe=>h2 e.symm⟩
 have hkl:k=d.regions.length:=by omega
 subst hkl;rw[show(mW d).take d.regions.length=mW d from rG (by simp[mW])]at hno;refine go ?_;exact aa (0,false) (hv:=rfl) (hp:=⟨⟨(λh=>by cases h),λh=>by
  rcases dZ.1 h with h|h
  ·exact absurd h Cf
  ·exact absurd h hno⟩,(λh=>by cases h)⟩)
theorem G5{d:bq}{l:List ByteArray}{vh vs vr vc vu vl:Value}(hs:d.symbols.length<=16)(hl:l.length<9223372036854775808):
 aZ Tryz.prog (.func 238) [.agg ⟨fO d vh vs vr vc vu⟩,vl] [] [] [ah fu vs d.symbols,ah aN vl l] (λy:Bool=>.tuple ⟨[.int .i64 (cond y (fU (bN d) l:Int) 0),.bool y]⟩) (λ_=>[]) (λ_=>[]) (λy=>y=true↔∀s∈l,s∈bN d):=by
 have hsl:(bN d).length<=16:=by simp[bN];exact hs
 refine aG _ (aM 238) λB w0=>?_;refine aT (E:=aN) (v:=vl) (xs:=l) (by simp) λa1 c1 e1=>?_;subst e1;refine go ?_;intro b1;refine go ?_;refine aX (λk=>l.length - k) (λk:Nat=>[(7,.int .i64 (k:Int)),(6,.int .i64 (fU (bN d) (l.take k):Int))]) (λ_=>[]) (λ_=>[]) (λk=>k<=l.length/\∀s∈l.take k,s∈bN d) 0 ⟨bX _,by simp⟩ (body:=?_);rintro k ⟨hk,hall⟩;refine go ?_;refine az rfl (λh1=>?_) (λh1=>?_)
 ·refine go ?_;refine aY aN (xs:=l) (next:=λ_ _ x (_:Unit) hx=>?_);refine go ?_;refine ak (aem (d:=d) (s:=x) (vh:=vh) (vs:=vs) (vr:=vr) (vc:=vc) (vu:=vu) (by omega)) (next:=λy hy=>?_);obtain⟨n,ok⟩:=y;obtain⟨hy1,hy2⟩:=hy;dsimp only at hy1 hy2;refine go ?_;cases ok with
  |false=>
   refine go ?_;exact aa false (hv:=rfl) (hp:=⟨(λh=>by cases h),λh=>by have:=hy1.2 (h x (bJ hx));cases this⟩)
  |true=>
   have hm:=hy1.1 rfl;have hp:=yS hm;have hn:=hy2 rfl;subst hn;have h2:1<<<dO x (bN d)<2^16:=by
    rw[Nat.shiftLeft_eq,xM];exact Nat.pow_lt_pow_right (by omega) (by omega)
   have h3:=KU hsl (l.take k) 0 hall (by omega);refine go ?_;refine(fq rfl rfl (Pf (a:=1) (b:=dO x (bN d)) rfl rfl (by omega) (by omega))).h ?_;refine(fq rfl rfl (Ph (a:=fU (bN d) (l.take k)) (b:=1<<<dO x (bN d)) rfl rfl (Nat.lt_trans h3 (by omega)) (by omega))).h ?_;refine go ?_;refine aO (k+1) (by omega) ⟨by omega,λs hs'=>?_⟩ (hl:=⟨rfl,by rw[RA hx];rfl,by repeat (first|exact trivial|refine⟨rfl,?_⟩)⟩);rw[lJ,hx]at hs';rcases dZ.1 hs' with h|h
   ·exact hall s h
   ·have:s=x:=by simpa using h
    rw[this];exact hm
 have hkl:k=l.length:=by omega
 subst hkl;rw[bK]at hall⊢;refine go ?_;exact aa true (hv:=rfl) (hp:=⟨λ_=>hall,λ_=>rfl⟩)
theorem aep{d:bq}{vh vs vr vc vu:Value}(hrl:d.regions.length<=4096)(hcl:d.aF.length<=4096):
 aZ Tryz.prog (.func 125) [.agg ⟨fO d vh vs vr vc vu⟩] [] [] [ah dW vr d.regions,ah bC vc d.aF] tV (λ_=>[]) (λy=>[lG (y.e=0) (ah bC y.v (d.aF.map (kG (bQ d))))]) (λy=>y.e=0↔(dD d).Nodup/\∀c∈d.aF,c.on∈bQ d):=by
 refine aG _ (aM 125) λB w0=>?_;refine aT (E:=bC) (v:=vc) (xs:=d.aF) (by simp) λa1 c1 e1=>?_;subst e1;refine go ?_;intro b1;refine bB (fG (b:=b1)) (h:=?_);refine go ?_;refine gq aN ?_;refine aX (λy:Nat×Value=>d.aF.length - y.1) (λy=>[(5,.int .i64 (y.1:Int)),(4,y.2)]) (λy=>[ap aN y.2 ((dD d).take y.1)]) (λ_=>[]) (λy=>y.1<=d.aF.length) (0,.slice none 0 0) (bX _) (hk:=by repeat (first|exact aH.nil|(apply aH.cons;(focus (repeat (first|exact ay.here|apply ay.there)))))) (body:=?_);rintro⟨k,v4⟩ hk;dsimp only at hk⊢;have hil:((dD d).take k).length=k:=by rw[gM];simp[dD];omega
 refine go ?_;refine az rfl (λh1=>?_) (λh1=>?_)
 ·refine go ?_;refine aY bC (xs:=d.aF) (next:=λ_ _ x _ hx=>?_);have kC:(dD d)[k]? =some x.name:=by unfold dD;rw[eY,hx];rfl
  refine go ?_;intro Bf;refine go ?_;refine fe aN (xs:=(dD d).take k) x.name () (by omega) (next:=λad=>?_);rw[<- bV kC];refine go ?_;exact aO (k+1,.slice ad (((dD d).take k).length+1) (((dD d).take k).length+1)) (by show d.aF.length - (k+1)<d.aF.length - k;omega) (by show k+1<=_;omega)
 have hkl:k=d.aF.length:=by omega
 subst hkl;rw[show(dD d).take d.aF.length=dD d from rG (by simp[dD])];refine bB (gp (E:=aN) (v:=v4) (xs:=dD d)) (h:=?_);refine go ?_;refine ak (GZ (vl:=v4) (xs:=dD d) (by simp[dD];omega)) (next:=λ_ _=>?_);refine go ?_;refine ed rfl (λh2=>?_) (λh2=>?_)
 ·refine go ?_;refine kR (c:=(161:Int)=0) (f:=ah bC (.slice none 0 0) (d.aF.map (kG (bQ d)))) (by omega) ?_;exact aa ⟨.slice none 0 0,161⟩ (hv:=rfl) (hp:=⟨(λh=>by cases h),λh=>absurd h.1 h2⟩)
 refine go ?_;refine gq bC ?_;refine aX (λy:Nat×Value=>d.aF.length - y.1) (λy=>[(7,.int .i64 (y.1:Int)),(6,y.2)]) (λy=>[ap bC y.2 ((d.aF.map (kG (bQ d))).take y.1)]) (λ_=>[]) (λy=>y.1<=d.aF.length/\∀c∈d.aF.take y.1,c.on∈bQ d) (0,.slice none 0 0) ⟨bX _,by simp⟩ (hk:=by repeat (first|exact aH.nil|(apply aH.cons;(focus (repeat (first|exact ay.here|apply ay.there)))))) (body:=?_);rintro⟨k,v6⟩ ⟨hk,hall⟩;dsimp only at hk hall⊢;have hil:((d.aF.map (kG (bQ d))).take k).length=k:=by rw[gM,di];omega
 refine go ?_;refine az rfl (λh3=>?_) (λh3=>?_)
 ·refine go ?_;refine aY bC (xs:=d.aF) (next:=λ_ _ x (_:Unit) hx=>?_);have hxm:(d.aF.map (kG (bQ d)))[k]? =some (kG (bQ d) x):=by rw[eY,hx];rfl
  refine go ?_;intro b8;refine go ?_;refine ak (Tf (d:=d) (s:=x.on) (vh:=vh) (vs:=vs) (vr:=vr) (vc:=.slice a1 d.aF.length c1) (vu:=vu) hrl) (next:=λy hy=>?_);obtain⟨n,ok⟩:=y;obtain⟨hy1,hy2⟩:=hy;dsimp only at hy1 hy2;refine go ?_;cases ok with
  |false=>
   refine go ?_;refine kR (c:=(160:Int)=0) (f:=ah bC (.slice none 0 0) (d.aF.map (kG (bQ d)))) (by omega) ?_;exact aa ⟨.slice none 0 0,160⟩ (hv:=rfl) (hp:=⟨(λh=>by cases h),λh=>by have:=hy1.2 (h.2 x (bJ hx));cases this⟩)
  |true=>
   have hn:=hy2 rfl;subst hn;refine go ?_;intro b54;refine go ?_;refine fe bC (xs:=(d.aF.map (kG (bQ d))).take k) (kG (bQ d) x) () (by omega) (next:=λad=>?_);rw[<- bV hxm];refine go ?_;refine aO (k+1,.slice ad (((d.aF.map (kG (bQ d))).take k).length+1) (((d.aF.map (kG (bQ d))).take k).length+1)) (by show d.aF.length - (k+1)<d.aF.length - k;omega) ⟨by show k+1<=_;omega,?_⟩;show∀c∈d.aF.take (k+1),c.on∈bQ d;rw[bV hx];intro c hc;rcases dZ.1 hc with hc|hc
   ·exact hall c hc
   ·rw[bG.1 hc];exact hy1.1 rfl
 have hkl:k=d.aF.length:=by omega
 subst hkl;rw[bK]at hall;rw[show(d.aF.map (kG (bQ d))).take d.aF.length=d.aF.map (kG (bQ d))from rG (by simp)];refine bB (gp (E:=bC) (v:=v6) (xs:=d.aF.map (kG (bQ d)))) (h:=?_);refine go ?_;refine ku (c:=(0:Int)=0) (f:=ah bC v6 (d.aF.map (kG (bQ d)))) (by simp) ?_;exact aa ⟨v6,0⟩ (hv:=rfl) (hp:=⟨λ_=>⟨h2,hall⟩,λ_=>rfl⟩)
abbrev RlP(d:bq)(r:bM)(y:bM×Bool):Prop:=(y.2=true↔yT (bN d) (bQ d) (dD d) r)/\(y.2=true->y.1=lg (bN d) (bQ d) (dD d) r)
theorem aes{d:bq}{r:bM}{vh vs vr vc vu v1 v2:Value}(hs:d.symbols.length<=16)(hrl:d.regions.length<=4096)(hcl:d.aF.length<=4096)(h1:r.names.length<9223372036854775808)(h2:r.others.length<9223372036854775808):
 aZ Tryz.prog (.func 171) [.agg ⟨fO d vh vs vr vc vu⟩,.agg ⟨kF r v1 v2⟩] [] [] [ah fu vs d.symbols,ah dW vr d.regions,ah bC vc d.aF,ah aN v1 r.names,ah aN v2 r.others] (λy:bM×Bool=>.tuple ⟨[.agg ⟨kF y.1 v1 v2⟩,.bool y.2]⟩) (λ_=>[]) (λ_=>[]) (RlP d r):=by
 refine aG _ (aM 171) λB w0=>?_;refine go ?_;intro b2 b3 b4;refine bB (fG (b:=b2)) (h:=?_);refine go ?_;refine ed (p:=r.on=⟨⟨[]⟩⟩) (by show Value.bool _=_;rw[dQ]) (λh3=>?_) (λh3=>?_)
 ·refine go ?_;refine ak (Tf (d:=d) (s:=r.on) (vh:=vh) (vs:=vs) (vr:=vr) (vc:=vc) (vu:=vu) hrl) (next:=λy hy=>?_);obtain⟨n,ok⟩:=y;obtain⟨hy1,hy2⟩:=hy;dsimp only at hy1 hy2;refine go ?_;cases ok with
  |false=>
   refine go ?_;exact aa ({r with family:=0},false) (hv:=rfl) (hp:=⟨⟨(λh=>by cases h),λh=>by rcases h.on with h|h;exact absurd h h3;have:=hy1.2 h;cases this⟩,(λh=>by cases h)⟩)
  |true=>
   have hon:r.on=⟨⟨[]⟩⟩\/r.on∈bQ d:=.inr (hy1.1 rfl);have hn:=hy2 rfl;subst hn;have hfm:(if r.on=⟨⟨[]⟩⟩then(0:Int)else(dO r.on (bQ d):Int))=(dO r.on (bQ d):Int):=if_neg h3;refine go ?_;refine ak (G5 (d:=d) (l:=r.names) (vh:=vh) (vs:=vs) (vr:=vr) (vc:=vc) (vu:=vu) (vl:=v1) hs h1) (next:=λz1 hz1=>?_);refine go ?_;refine ak (G5 (d:=d) (l:=r.others) (vh:=vh) (vs:=vs) (vr:=vr) (vc:=vc) (vu:=vu) (vl:=v2) hs h2) (next:=λz2 hz2=>?_);refine go ?_;refine ed (p:=r.dL=⟨⟨[]⟩⟩) (by show Value.bool _=_;rw[dQ]) (λh4=>?_) (λh4=>?_)
   ·refine go ?_;refine ak (Te (d:=d) (s:=r.dL) (vh:=vh) (vs:=vs) (vr:=vr) (vc:=vc) (vu:=vu) (by omega)) (next:=λy hy=>?_);obtain⟨n,ok⟩:=y;obtain⟨hy1,hy2⟩:=hy;dsimp only at hy1 hy2;refine go ?_;cases ok with
    |false=>
     refine go ?_;exact aa ({r with family:=(dO r.on (bQ d):Int),set:=cond z1 (fU (bN d) r.names:Int) 0,other:=cond z2 (fU (bN d) r.others:Int) 0,aQ:= -1},false) (hv:=rfl) (hp:=⟨⟨(λh=>by cases h),λh=>by rcases h.dL with h|h;exact absurd h h4;have:=hy1.2 h;cases this⟩,(λh=>by cases h)⟩)
    |true=>
     have hby:r.dL=⟨⟨[]⟩⟩\/r.dL∈dD d:=.inr (hy1.1 rfl);have hn:=hy2 rfl;subst hn;have hcm:(if r.dL=⟨⟨[]⟩⟩then(-1:Int)else(dO r.dL (dD d):Int))=(dO r.dL (dD d):Int):=if_neg h4;refine go ?_;cases z1 with
     |false=>
      refine go ?_;exact aa ({r with family:=(dO r.on (bQ d):Int),set:=0,other:=cond z2 (fU (bN d) r.others:Int) 0,aQ:=(dO r.dL (dD d):Int)},false) (hv:=rfl) (hp:=⟨⟨(λh=>by cases h),λh=>by have:=hz1.2 h.names;cases this⟩,(λh=>by cases h)⟩)
     |true=>
      cases z2 with
      |false=>
       refine go ?_;exact aa ({r with family:=(dO r.on (bQ d):Int),set:=(fU (bN d) r.names:Int),other:=0,aQ:=(dO r.dL (dD d):Int)},false) (hv:=rfl) (hp:=⟨⟨(λh=>by cases h),λh=>by have:=hz2.2 h.others;cases this⟩,(λh=>by cases h)⟩)
      |true=>
       refine go ?_;refine aa ({r with family:=(dO r.on (bQ d):Int),set:=(fU (bN d) r.names:Int),other:=(fU (bN d) r.others:Int),aQ:=(dO r.dL (dD d):Int)},true) (hv:=rfl) (hp:=⟨⟨λ_=>⟨hon,hz1.1 rfl,hz2.1 rfl,hby⟩,λ_=>rfl⟩,λ_=>?_⟩);unfold lg;rw[hfm,hcm]
   ·have hby:r.dL=⟨⟨[]⟩⟩\/r.dL∈dD d:=.inl h4;have hcm:(if r.dL=⟨⟨[]⟩⟩then(-1:Int)else(dO r.dL (dD d):Int))= -1:=if_pos h4;refine go ?_;cases z1 with
    |false=>
     refine go ?_;exact aa ({r with family:=(dO r.on (bQ d):Int),set:=0,other:=cond z2 (fU (bN d) r.others:Int) 0,aQ:=(-1:Int)},false) (hv:=rfl) (hp:=⟨⟨(λh=>by cases h),λh=>by have:=hz1.2 h.names;cases this⟩,(λh=>by cases h)⟩)
    |true=>
     cases z2 with
     |false=>
      refine go ?_;exact aa ({r with family:=(dO r.on (bQ d):Int),set:=(fU (bN d) r.names:Int),other:=0,aQ:=(-1:Int)},false) (hv:=rfl) (hp:=⟨⟨(λh=>by cases h),λh=>by have:=hz2.2 h.others;cases this⟩,(λh=>by cases h)⟩)
     |true=>
      refine go ?_;refine aa ({r with family:=(dO r.on (bQ d):Int),set:=(fU (bN d) r.names:Int),other:=(fU (bN d) r.others:Int),aQ:=(-1:Int)},true) (hv:=rfl) (hp:=⟨⟨λ_=>⟨hon,hz1.1 rfl,hz2.1 rfl,hby⟩,λ_=>rfl⟩,λ_=>?_⟩);unfold lg;rw[hfm,hcm]
 ·have hon:r.on=⟨⟨[]⟩⟩\/r.on∈bQ d:=.inl h3;have hfm:(if r.on=⟨⟨[]⟩⟩then(0:Int)else(dO r.on (bQ d):Int))=0:=if_pos h3;refine go ?_;refine ak (G5 (d:=d) (l:=r.names) (vh:=vh) (vs:=vs) (vr:=vr) (vc:=vc) (vu:=vu) (vl:=v1) hs h1) (next:=λz1 hz1=>?_);refine go ?_;refine ak (G5 (d:=d) (l:=r.others) (vh:=vh) (vs:=vs) (vr:=vr) (vc:=vc) (vu:=vu) (vl:=v2) hs h2) (next:=λz2 hz2=>?_);refine go ?_;refine ed (p:=r.dL=⟨⟨[]⟩⟩) (by show Value.bool _=_;rw[dQ]) (λh4=>?_) (λh4=>?_)
  ·refine go ?_;refine ak (Te (d:=d) (s:=r.dL) (vh:=vh) (vs:=vs) (vr:=vr) (vc:=vc) (vu:=vu) (by omega)) (next:=λy hy=>?_);obtain⟨n,ok⟩:=y;obtain⟨hy1,hy2⟩:=hy;dsimp only at hy1 hy2;refine go ?_;cases ok with
   |false=>
    refine go ?_;exact aa ({r with family:=(0:Int),set:=cond z1 (fU (bN d) r.names:Int) 0,other:=cond z2 (fU (bN d) r.others:Int) 0,aQ:= -1},false) (hv:=rfl) (hp:=⟨⟨(λh=>by cases h),λh=>by rcases h.dL with h|h;exact absurd h h4;have:=hy1.2 h;cases this⟩,(λh=>by cases h)⟩)
   |true=>
    have hby:r.dL=⟨⟨[]⟩⟩\/r.dL∈dD d:=.inr (hy1.1 rfl);have hn:=hy2 rfl;subst hn;have hcm:(if r.dL=⟨⟨[]⟩⟩then(-1:Int)else(dO r.dL (dD d):Int))=(dO r.dL (dD d):Int):=if_neg h4;refine go ?_;cases z1 with
    |false=>
     refine go ?_;exact aa ({r with family:=(0:Int),set:=0,other:=cond z2 (fU (bN d) r.others:Int) 0,aQ:=(dO r.dL (dD d):Int)},false) (hv:=rfl) (hp:=⟨⟨(λh=>by cases h),λh=>by have:=hz1.2 h.names;cases this⟩,(λh=>by cases h)⟩)
    |true=>
     cases z2 with
     |false=>
      refine go ?_;exact aa ({r with family:=(0:Int),set:=(fU (bN d) r.names:Int),other:=0,aQ:=(dO r.dL (dD d):Int)},false) (hv:=rfl) (hp:=⟨⟨(λh=>by cases h),λh=>by have:=hz2.2 h.others;cases this⟩,(λh=>by cases h)⟩)
     |true=>
      refine go ?_;refine aa ({r with family:=(0:Int),set:=(fU (bN d) r.names:Int),other:=(fU (bN d) r.others:Int),aQ:=(dO r.dL (dD d):Int)},true) (hv:=rfl) (hp:=⟨⟨λ_=>⟨hon,hz1.1 rfl,hz2.1 rfl,hby⟩,λ_=>rfl⟩,λ_=>?_⟩);unfold lg;rw[hfm,hcm]
  ·have hby:r.dL=⟨⟨[]⟩⟩\/r.dL∈dD d:=.inl h4;have hcm:(if r.dL=⟨⟨[]⟩⟩then(-1:Int)else(dO r.dL (dD d):Int))= -1:=if_pos h4;refine go ?_;cases z1 with
   |false=>
    refine go ?_;exact aa ({r with family:=(0:Int),set:=0,other:=cond z2 (fU (bN d) r.others:Int) 0,aQ:=(-1:Int)},false) (hv:=rfl) (hp:=⟨⟨(λh=>by cases h),λh=>by have:=hz1.2 h.names;cases this⟩,(λh=>by cases h)⟩)
   |true=>
    cases z2 with
    |false=>
     refine go ?_;exact aa ({r with family:=(0:Int),set:=(fU (bN d) r.names:Int),other:=0,aQ:=(-1:Int)},false) (hv:=rfl) (hp:=⟨⟨(λh=>by cases h),λh=>by have:=hz2.2 h.others;cases this⟩,(λh=>by cases h)⟩)
    |true=>
     refine go ?_;refine aa ({r with family:=(0:Int),set:=(fU (bN d) r.names:Int),other:=(fU (bN d) r.others:Int),aQ:=(-1:Int)},true) (hv:=rfl) (hp:=⟨⟨λ_=>⟨hon,hz1.1 rfl,hz2.1 rfl,hby⟩,λ_=>rfl⟩,λ_=>?_⟩);unfold lg;rw[hfm,hcm]
theorem aet{d:bq}{vh vs vr vc vu:Value}(hs:d.symbols.length<=16)(hD:lC d):
 aZ Tryz.prog (.func 126) [.agg ⟨fO d vh vs vr vc vu⟩] [] [] [ah fu vs d.symbols,ah dW vr d.regions,ah bC vc d.aF,ah aW vu d.rules] tV (λ_=>[]) (λy=>[lG (y.e=0) (ah aW y.v (d.rules.map (lg (bN d) (bQ d) (dD d))))]) (λy=>y.e=0↔(lU d).Nodup/\∀r∈d.rules,yT (bN d) (bQ d) (dD d) r):=by
 have hrl:=hD.regs;have hcl:=hD.ja;have xe:=hD.ko;have hrn:=hD.qc;refine aG _ (aM 126) λB w0=>?_;refine aT (E:=aW) (v:=vu) (xs:=d.rules) (by simp) λa1 c1 e1=>?_;subst e1;refine go ?_;intro b1;refine bB (fG (b:=b1)) (h:=?_);refine go ?_;refine gq aN ?_;refine aX (λy:Nat×Value=>d.rules.length - y.1) (λy=>[(5,.int .i64 (y.1:Int)),(4,y.2)]) (λy=>[ap aN y.2 ((lU d).take y.1)]) (λ_=>[]) (λy=>y.1<=d.rules.length) (0,.slice none 0 0) (bX _) (hk:=by repeat (first|exact aH.nil|(apply aH.cons;(focus (repeat (first|exact ay.here|apply ay.there)))))) (body:=?_);rintro⟨k,v4⟩ hk;dsimp only at hk⊢;have hil:((lU d).take k).length=k:=by rw[gM];simp[lU];omega
 refine go ?_;refine az rfl (λh1=>?_) (λh1=>?_)
 ·refine go ?_;refine aY aW (xs:=d.rules) (next:=λ_ _ x _ hx=>?_);have kC:(lU d)[k]? =some x.name:=by unfold lU;rw[eY,hx];rfl
  refine go ?_;intro Bf;refine go ?_;refine fe aN (xs:=(lU d).take k) x.name () (by omega) (next:=λad=>?_);rw[<- bV kC];refine go ?_;exact aO (k+1,.slice ad (((lU d).take k).length+1) (((lU d).take k).length+1)) (by show d.rules.length - (k+1)<d.rules.length - k;omega) (by show k+1<=_;omega)
 have hkl:k=d.rules.length:=by omega
 subst hkl;rw[show(lU d).take d.rules.length=lU d from rG (by simp[lU])];refine bB (gp (E:=aN) (v:=v4) (xs:=lU d)) (h:=?_);refine go ?_;refine ak (GZ (vl:=v4) (xs:=lU d) (by simp[lU];omega)) (next:=λ_ _=>?_);refine go ?_;refine ed rfl (λh2=>?_) (λh2=>?_)
 ·refine go ?_;refine kR (c:=(161:Int)=0) (f:=ah aW (.slice none 0 0) (d.rules.map (lg (bN d) (bQ d) (dD d)))) (by omega) ?_;exact aa ⟨.slice none 0 0,161⟩ (hv:=rfl) (hp:=⟨(λh=>by cases h),λh=>absurd h.1 h2⟩)
 refine go ?_;refine gq aW ?_;generalize hf:lg (bN d) (bQ d) (dD d)=f;refine aX (λy:Nat×Value=>d.rules.length - y.1) (λy=>[(7,.int .i64 (y.1:Int)),(6,y.2)]) (λy=>[ap aW y.2 ((d.rules.map f).take y.1)]) (λ_=>[]) (λy=>y.1<=d.rules.length/\∀r∈d.rules.take y.1,yT (bN d) (bQ d) (dD d) r) (0,.slice none 0 0) ⟨bX _,by simp⟩ (hk:=by repeat (first|exact aH.nil|(apply aH.cons;(focus (repeat (first|exact ay.here|apply ay.there)))))) (body:=?_);rintro⟨k,v6⟩ ⟨hk,hall⟩;dsimp only at hk hall⊢;have hil:((d.rules.map f).take k).length=k:=by rw[gM,di];omega
 refine go ?_;refine az rfl (λh3=>?_) (λh3=>?_)
 ·refine go ?_;refine aY aW (xs:=d.rules) (next:=λ_ _ x (vx:Value×Value) hx=>?_);have hxm:(d.rules.map f)[k]? =some (f x):=by rw[eY,hx];rfl
  have hxl:=hrn x (bJ hx);refine go ?_;intro b8;refine ak (aes (d:=d) (r:=x) (vh:=vh) (vs:=vs) (vr:=vr) (vc:=vc) (vu:=.slice a1 d.rules.length c1) (v1:=vx.1) (v2:=vx.2) hs hrl hcl hxl.1 hxl.2) (next:=λy hy=>?_);obtain⟨z,ok⟩:=y;obtain⟨hy1,hy2⟩:=hy;dsimp only at hy1 hy2;refine go ?_;cases ok with
  |false=>
   refine go ?_;refine kR (c:=(160:Int)=0) (f:=ah aW (.slice none 0 0) (d.rules.map f)) (by omega) ?_;exact aa ⟨.slice none 0 0,160⟩ (hv:=rfl) (hp:=⟨(λh=>by cases h),λh=>by have:=hy1.2 (h.2 x (bJ hx));cases this⟩)
  |true=>
   have hz:=hy2 rfl;rw[hf]at hz;have hzn:z.names=x.names/\z.others=x.others:=by rw[hz,<- hf];exact⟨rfl,rfl⟩
   refine go ?_;intro b54;refine go ?_;refine eO (ah aN vx.1 z.names) (λw hw=>by rw[hzn.1];exact hw (ah aN vx.1 x.names) (by simp)) ?_;refine eO (ah aN vx.2 z.others) (λw hw=>by rw[hzn.2];exact hw (ah aN vx.2 x.others) (by simp)) ?_;refine fe aW (xs:=(d.rules.map f).take k) z vx (by omega) (next:=λad=>?_);rw[hz,<- bV hxm];refine go ?_;refine aO (k+1,.slice ad (((d.rules.map f).take k).length+1) (((d.rules.map f).take k).length+1)) (by show d.rules.length - (k+1)<d.rules.length - k;omega) ⟨by show k+1<=_;omega,?_⟩;show∀c∈d.rules.take (k+1),yT (bN d) (bQ d) (dD d) c;rw[bV hx];intro c hc;rcases dZ.1 hc with hc|hc
   ·exact hall c hc
   ·rw[bG.1 hc];exact hy1.1 rfl
 have hkl:k=d.rules.length:=by omega
 subst hkl;rw[bK]at hall;rw[show(d.rules.map f).take d.rules.length=d.rules.map f from rG (by simp)];refine bB (gp (E:=aW) (v:=v6) (xs:=d.rules.map f)) (h:=?_);refine go ?_;refine ku (c:=(0:Int)=0) (f:=ah aW v6 (d.rules.map f)) (by simp) ?_;exact aa ⟨v6,0⟩ (hv:=rfl) (hp:=⟨λ_=>⟨h2,hall⟩,λ_=>rfl⟩)
theorem Tg{d:bq}{vh vs vr vc vu:Value}(hD:lC d):
 aZ Tryz.prog (.func 89) [.agg ⟨fO d vh vs vr vc vu⟩] [] [] (j6 d vh vs vr vc vu) (qb d vh vs vr) (λ_=>[]) (mV d) (y7 d):=by
 have hsl:=hD.dU;have hrl:=hD.regs;have hcl:=hD.ja;have xe:=hD.ko;have hgl:ik.length=8:=rfl;refine aG _ (aM 89) λB w0=>?_;refine aT (E:=fu) (v:=vs) (xs:=d.symbols) (by simp) λa1 c1 e1=>?_;subst e1;refine aT (E:=dW) (v:=vr) (xs:=d.regions) (by simp) λa2 c2 e2=>?_;subst e2;refine go ?_;intro b1 b2;refine go ?_;refine az rfl (λhs=>?_) (λhs=>?_)
 ·refine go ?_;exact aa ⟨false,2,.nilFunc,.nilFunc⟩ (hv:=rfl) (hp:=⟨(λh=>by cases h),λ_=>⟨by show(2:Int)≠0;omega,λh=>by have:=h.dU;omega⟩⟩)
 refine go ?_;refine gq aN ?_;refine aX (λy:Nat×Value=>d.symbols.length - y.1) (λy=>[(5,.int .i64 (y.1:Int)),(4,y.2)]) (λy=>[ap aN y.2 ((bN d).take y.1)]) (λ_=>[]) (λy=>y.1<=d.symbols.length) (0,.slice none 0 0) (bX _) (hk:=by repeat (first|exact aH.nil|(apply aH.cons;(focus (repeat (first|exact ay.here|apply ay.there)))))) (body:=?_);rintro⟨k,v4⟩ hk;dsimp only at hk⊢;have hil:((bN d).take k).length=k:=by rw[gM];simp[bN];omega
 refine go ?_;refine az rfl (λh1=>?_) (λh1=>?_)
 ·refine go ?_;refine aY fu (xs:=d.symbols) (next:=λ_ _ x _ hx=>?_);have kC:(bN d)[k]? =some x.name:=by unfold bN;rw[eY,hx];rfl
  refine go ?_;intro Bf;refine go ?_;refine fe aN (xs:=(bN d).take k) x.name () (by omega) (next:=λad=>?_);rw[<- bV kC];refine go ?_;exact aO (k+1,.slice ad (((bN d).take k).length+1) (((bN d).take k).length+1)) (by show d.symbols.length - (k+1)<d.symbols.length - k;omega) (by show k+1<=_;omega)
 have hkl:k=d.symbols.length:=by omega
 subst hkl;rw[show(bN d).take d.symbols.length=bN d from rG (by simp[bN])];refine bB (gp (E:=aN) (v:=v4) (xs:=bN d)) (h:=?_);refine go ?_;refine ak (GZ (vl:=v4) (xs:=bN d) (by simp[bN];omega)) (next:=λ_ _=>?_);refine go ?_;refine ed rfl (λk1=>?_) (λk1=>?_)
 ·refine go ?_;exact aa ⟨false,161,.nilFunc,.nilFunc⟩ (hv:=rfl) (hp:=⟨(λh=>by cases h),λ_=>⟨by show(161:Int)≠0;omega,λh=>k1 h.QE⟩⟩)
 refine go ?_;refine ak Td (next:=λag _=>?_);refine go ?_;refine aX (λy:Nat×Value=>d.regions.length - y.1) (λy=>[(7,.int .i64 (y.1:Int)),(6,y.2)]) (λy=>[ap aN y.2 (ik++(mW d).take y.1)]) (λ_=>[]) (λy=>y.1<=d.regions.length) (0,.slice ag ik.length ik.length) (bX _) (hk:=by rw[List.take_zero,gD];repeat (first|exact aH.nil|(apply aH.cons;(focus (repeat (first|exact ay.here|apply ay.there)))))) (body:=?_);rintro⟨k,v6⟩ hk;dsimp only at hk⊢;have hil:(ik++(mW d).take k).length=8+k:=by rw[gB,gM,hgl];simp[mW];omega
 refine go ?_;refine az rfl (λh1=>?_) (λh1=>?_)
 ·refine go ?_;refine aY dW (xs:=d.regions) (next:=λ_ _ x (_:Value) hx=>?_);have kC:(mW d)[k]? =some x.name:=by unfold mW;rw[eY,hx];rfl
  refine go ?_;intro Bf;refine go ?_;refine fe aN (xs:=ik++(mW d).take k) x.name () (by omega) (next:=λad=>?_);rw[fE,<- bV kC];refine go ?_;exact aO (k+1,.slice ad ((ik++(mW d).take k).length+1) ((ik++(mW d).take k).length+1)) (by show d.regions.length - (k+1)<d.regions.length - k;omega) (by show k+1<=_;omega)
 have hkl:k=d.regions.length:=by omega
 subst hkl;rw[show ik++(mW d).take d.regions.length=bQ d from by rw[rG (by simp[mW])];rfl];refine bB (gp (E:=aN) (v:=v6) (xs:=bQ d)) (h:=?_);refine go ?_;refine ak (GZ (vl:=v6) (xs:=bQ d) (by simp[bQ];omega)) (next:=λ_ _=>?_);refine go ?_;refine ed rfl (λk2=>?_) (λk2=>?_)
 ·refine go ?_;exact aa ⟨false,161,.nilFunc,.nilFunc⟩ (hv:=rfl) (hp:=⟨(λh=>by cases h),λ_=>⟨by show(161:Int)≠0;omega,λh=>k2 h.QF⟩⟩)
 refine go ?_;refine ak (aep (d:=d) (vh:=vh) (vs:=.slice a1 d.symbols.length c1) (vr:=.slice a2 d.regions.length c2) (vc:=vc) (vu:=vu) hrl hcl) (next:=λy hy=>?_);obtain⟨wc,e⟩:=y;dsimp only at hy⊢;refine go ?_;refine az rfl (λk3=>?_) (λk3=>?_)
 ·refine go ?_;exact aa ⟨false,e,.nilFunc,.nilFunc⟩ (hv:=rfl) (hp:=⟨(λh=>by cases h),λ_=>⟨k3,λh=>k3 (hy.2 ⟨h.QG,h.Kn⟩)⟩⟩)
 have he:e=0:=iF.1 k3;subst he;obtain⟨p1,p2⟩:=hy.1 rfl;clear hy k3;refine eO (ah bC wc (Kd.bi d).aF) (λw hw=>hw (lG ((0:Int)=0) (ah bC wc (d.aF.map (kG (bQ d))))) (by simp) rfl) ?_;refine go ?_;refine ak (aet (d:=d) (vh:=vh) (vs:=.slice a1 d.symbols.length c1) (vr:=.slice a2 d.regions.length c2) (vc:=vc) (vu:=vu) (by omega) hD) (next:=λy hy=>?_);obtain⟨wu,e⟩:=y;dsimp only at hy⊢;refine go ?_;refine az rfl (λk3=>?_) (λk3=>?_)
 ·refine go ?_;exact aa ⟨false,e,.nilFunc,.nilFunc⟩ (hv:=rfl) (hp:=⟨(λh=>by cases h),λ_=>⟨k3,λh=>k3 (hy.2 ⟨h.QH,h.wT⟩)⟩⟩)
 have he:e=0:=iF.1 k3;subst he;obtain⟨p3,p4⟩:=hy.1 rfl;clear hy k3;refine eO (ah aW wu (Kd.bi d).rules) (λw hw=>hw (lG ((0:Int)=0) (ah aW wu (d.rules.map (lg (bN d) (bQ d) (dD d))))) (by simp) rfl) ?_;refine aT (E:=bC) (v:=wc) (xs:=(Kd.bi d).aF) (by simp) λa3 c3 e3=>?_;subst e3;refine aT (E:=aW) (v:=wu) (xs:=(Kd.bi d).rules) (by simp) λa4 c4 e4=>?_;subst e4;refine go ?_;refine aa ⟨true,0,.slice a3 (Kd.bi d).aF.length c3,.slice a4 (Kd.bi d).rules.length c4⟩ (hv:=rfl) (hp:=⟨λ_=>⟨rfl,⟨by omega,k1,k2,p1,p2,p3,p4⟩⟩,(λh=>by cases h)⟩) (hF:=?_);show Sub [ah bC _ (Kd.bi d).aF,ah aW _ (Kd.bi d).rules] _;exact .cons (by simp) (.cons (by simp) .nil)
