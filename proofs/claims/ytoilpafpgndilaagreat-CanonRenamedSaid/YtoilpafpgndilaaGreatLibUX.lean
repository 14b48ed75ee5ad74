/-
  Part LibUX.
-/
import Derived.Test.YtoilpafpgndilaaGreatLibDX
set_option linter.all false
set_option maxRecDepth 10000
set_option maxHeartbeats 4000000
namespace Go.Proofs.YtoilpafpgndilaaGreat
open Go.Ideal Kd
noncomputable def WA:gV:=⟨2,[(.tmp 0)],(.seq (kO [kS 0 (.nD (.const vS))]) (.seq (kO [⟨⟨(some 1),none,(.wU 9 8 [vE,vE,vE,vE,vE,vE,vE,vE] [⟨0,⟨1,(.const (.string ⟨⟨[99,101,108,108,115]⟩⟩))⟩⟩,⟨1,⟨1,(.const (.string ⟨⟨[114,111,119,115]⟩⟩))⟩⟩,⟨2,⟨1,(.const (.string ⟨⟨[99,111,108,117,109,110,115]⟩⟩))⟩⟩,⟨3,⟨1,(.const (.string ⟨⟨[100,105,97,103,111,110,97,108,115]⟩⟩))⟩⟩,⟨4,⟨1,(.const (.string ⟨⟨[97,114,111,117,110,100]⟩⟩))⟩⟩,⟨5,⟨1,(.const (.string ⟨⟨[110,101,97,114]⟩⟩))⟩⟩,⟨6,⟨1,(.const (.string ⟨⟨[112,97,105,114,115]⟩⟩))⟩⟩,⟨7,⟨1,(.const (.string ⟨⟨[97,108,108]⟩⟩))⟩⟩])⟩,[]⟩,kS 0 (.nD 1)]) .ret))⟩
theorem ahX:mO Tryz.prog 193=some WA:=by kernel_rfl
theorem FZ{s:ByteArray}:∀{l:List ByteArray} {k:Nat},l[k]? =some s->s∉l.take k->dZ s l=k
 |[],k,h,_=>by simp at h
 |a::l,0,h,_=>by
  have h:a=s:=by simpa using h
  unfold dZ;rw[if_pos h.symm]
 |a::l,k+1,h,hn=>by
  have h:l[k]? =some s:=by simpa using h
  rw[List.take_succ_cons,dx,not_or]at hn;unfold dZ;rw[if_neg hn.1,FZ h hn.2]
theorem WB{α:Type}{xs:List α}{k:Nat}{x:α}(hx:xs[k]? =some x):(xs.take (k+1)).Nodup↔(xs.take k).Nodup/\x∉xs.take k:=by
 rw[bZ hx,iT];constructor
 ·rintro⟨h1,_,h2⟩;exact⟨h1,λh=>h2 x h x (bM.2 rfl) rfl⟩
 ·rintro⟨h1,h2⟩;exact⟨h1,by simp,λa ha b hb e=>h2 (by rw[bM.1 hb]at e;rw[<- e];exact ha)⟩
theorem J6{vl:Value}{xs:List ByteArray}(hl:xs.length<9223372036854775808):dD Tryz.prog 192 [vl] [ai bC vl xs] (.bool (!decide xs.Nodup)):=by
 refine aM _ (aP 192) λB w0=>?_;refine aS (E:=bC) (v:=vl) (xs:=xs) (by simp) λa1 c1 e1=>?_;subst e1;refine go ?_;refine aU (λk=>xs.length - k) (λk:Nat=>[(3,.int .i64 (k:Int))]) (λ_=>[]) (λ_=>[]) (λk=>k<=xs.length/\(xs.take k).Nodup) 0 ⟨by omega,by simp⟩ (body:=?_);rintro k ⟨hk,hnd⟩;refine go ?_;refine aA rfl (λh1=>?_) (λh1=>?_)
 ·have hx:xs[k]? =some (xs[k]'(by omega)):=bP _;generalize xs[k]'(by omega)=x at hx;refine go ?_;refine aU (λj=>k - j) (λj:Nat=>[(4,.int .i64 (j:Int))]) (λ_=>[]) (λ_=>[]) (λj=>j<=k/\x∉xs.take j) 0 ⟨by omega,by simp⟩ (body:=?_);rintro j ⟨hj,hno⟩;refine go ?_;refine aA rfl (λh2=>?_) (λh2=>?_)
  ·refine go ?_;refine bi bC (xs:=xs) (next:=λ_ _ x' (_:Unit) hx'=>?_);cases hx.symm.trans hx';refine go ?_;refine bi bC (xs:=xs) (next:=λ_ _ y (_:Unit) hy=>?_);refine go ?_;refine kw rfl (λh3=>?_) (λh3=>?_)
   ·rw[eB]at h3;have h3:=iI h3;subst h3;refine go ?_;refine ah () (hv:=?_) (hp:=trivial);rw[aR (λhn=>by
     have h4:(xs.take (k+1)).Nodup:=hn.sublist (PX _ _);rw[WB hx]at h4;exact h4.2 (uy.2 ⟨j,by rw[sK,if_pos (by omega)];exact hy⟩))];rfl
   ·rw[eB]at h3;have h3:=nC h3;refine go ?_;refine aN (j+1) (by omega) ⟨by omega,?_⟩;rw[bZ hy,dX,not_or];exact⟨hno,by simp;exact h3⟩
  have hjk:j=k:=by omega
  subst hjk;refine go ?_;exact aN (j+1) (by omega) ⟨by omega,(WB hx).2 ⟨hnd,hno⟩⟩
 have hkl:k=xs.length:=by omega
 subst hkl;rw[bU]at hnd;refine go ?_;refine ah () (hv:=?_) (hp:=trivial);rw[dK hnd];rfl
theorem WC:bA Tryz.prog (.func 193) [] [] [] [] (λa:Option Addr=>.slice a iN.length iN.length) (λa=>[ap bC (.slice a iN.length iN.length) iN]) (λ_=>[]) (λ_=>True):=by
 refine aM WA ahX λB w0=>?_;refine go ?_;intro b;refine go ?_;refine tT (b:=b) (m:=iN.length) (f:=0) bC (aC:=iN.map λs=>(s,())) rfl (.inl rfl) ?_ (hk:=az.here);refine TR (E:=bC) (aC:=iN.map λs=>(s,())) (by decide) ?_ (λw hw p hp f hf=>by cases hf);show R _ _ _ [ap bC (.slice (some ⟨b,0,some 0⟩) iN.length iN.length) iN] _;exact ah (some ⟨b,0,some 0⟩) (hv:=rfl) (hp:=trivial)
def Pe(s:ByteArray)(l:List ByteArray)(y:Nat×Bool):Prop:=(y.2=true↔s∈l)/\(y.2=true->dZ s l=y.1)
abbrev Pf(y:Nat×Bool):Value:=.tuple ⟨[.int .i64 (y.1:Int),.bool y.2]⟩
theorem ahY{d:bF}{s:ByteArray}{vh vs vr vc vu:Value}(hl:d.symbols.length<9223372036854775808):bA Tryz.prog (.func 370) [.agg ⟨gB d vh vs vr vc vu⟩,.string s] [] [] [ai fF vs d.symbols] Pf (λ_=>[]) (λ_=>[]) (Pe s (bX d)):=by
 refine aM _ (aP 370) λB w0=>?_;refine aS (E:=fF) (v:=vs) (xs:=d.symbols) (by simp) λa1 c1 e1=>?_;subst e1;refine go ?_;intro b1;refine go ?_;refine aU (λk=>d.symbols.length - k) (λk:Nat=>[(6,.int .i64 (k:Int))]) (λ_=>[]) (λ_=>[]) (λk=>k<=d.symbols.length/\s∉(bX d).take k) 0 ⟨by omega,by simp⟩ (body:=?_);rintro k ⟨hk,hno⟩;refine go ?_;refine aA rfl (λh1=>?_) (λh1=>?_)
 ·refine go ?_;refine bi fF (xs:=d.symbols) (next:=λ_ _ x _ hx=>?_);have lQ:(bX d)[k]? =some x.name:=by unfold bX;rw[dm,hx];rfl
  refine go ?_;refine kw rfl (λh2=>?_) (λh2=>?_)
  ·rw[eB]at h2;have h2:=iI h2;subst h2;refine go ?_;exact ah (k,true) (hv:=rfl) (hp:=⟨⟨λ_=>aZ lQ,λ_=>rfl⟩,λ_=>FZ lQ hno⟩)
  ·rw[eB]at h2;have h2:=nC h2;refine go ?_;refine aN (k+1) (by omega) ⟨by omega,?_⟩;rw[bZ lQ,dX,not_or];exact⟨hno,by simp;exact λe=>h2 e.symm⟩
 have hkl:k=d.symbols.length:=by omega
 subst hkl;rw[show(bX d).take d.symbols.length=bX d from ry (by simp[bX])]at hno;refine go ?_;exact ah (0,false) (hv:=rfl) (hp:=⟨⟨(λh=>by cases h),λh=>absurd h hno⟩,(λh=>by cases h)⟩)
theorem WE{d:bF}{s:ByteArray}{vh vs vr vc vu:Value}(hl:d.aJ.length<9223372036854775808):bA Tryz.prog (.func 338) [.agg ⟨gB d vh vs vr vc vu⟩,.string s] [] [] [ai bI vc d.aJ] Pf (λ_=>[]) (λ_=>[]) (Pe s (dO d)):=by
 refine aM _ (aP 338) λB w0=>?_;refine aS (E:=bI) (v:=vc) (xs:=d.aJ) (by simp) λa1 c1 e1=>?_;subst e1;refine go ?_;intro b1;refine go ?_;refine aU (λk=>d.aJ.length - k) (λk:Nat=>[(6,.int .i64 (k:Int))]) (λ_=>[]) (λ_=>[]) (λk=>k<=d.aJ.length/\s∉(dO d).take k) 0 ⟨by omega,by simp⟩ (body:=?_);rintro k ⟨hk,hno⟩;refine go ?_;refine aA rfl (λh1=>?_) (λh1=>?_)
 ·refine go ?_;refine bi bI (xs:=d.aJ) (next:=λ_ _ x _ hx=>?_);have lQ:(dO d)[k]? =some x.name:=by unfold dO;rw[dm,hx];rfl
  refine go ?_;refine kw rfl (λh2=>?_) (λh2=>?_)
  ·rw[eB]at h2;have h2:=iI h2;subst h2;refine go ?_;exact ah (k,true) (hv:=rfl) (hp:=⟨⟨λ_=>aZ lQ,λ_=>rfl⟩,λ_=>FZ lQ hno⟩)
  ·rw[eB]at h2;have h2:=nC h2;refine go ?_;refine aN (k+1) (by omega) ⟨by omega,?_⟩;rw[bZ lQ,dX,not_or];exact⟨hno,by simp;exact λe=>h2 e.symm⟩
 have hkl:k=d.aJ.length:=by omega
 subst hkl;rw[show(dO d).take d.aJ.length=dO d from ry (by simp[dO])]at hno;refine go ?_;exact ah (0,false) (hv:=rfl) (hp:=⟨⟨(λh=>by cases h),λh=>absurd h hno⟩,(λh=>by cases h)⟩)
def oN(d:bF):List ByteArray:=d.regions.map (·.name)
theorem ahZ{s:ByteArray}{a b:List ByteArray}(h:s∉a):dZ s (a++b)=a.length+dZ s b:=by
 induction a with
 |nil=>simp
 |cons x a ih=>
  rw[dx,not_or]at h;show(if s=x then 0 else dZ s (a++b)+1)=_;rw[if_neg h.1,ih h.2,oP];omega
theorem ah0{s:ByteArray}{a b:List ByteArray}(h:s∈a):dZ s (a++b)=dZ s a:=by
 induction a with
 |nil=>cases h
 |cons x a ih=>
  show(if s=x then 0 else dZ s (a++b)+1)=if s=x then 0 else dZ s a+1
  by_cases e:s=x
  ·rw[if_pos e,if_pos e]
  ·rw[if_neg e,if_neg e,ih ((dx.1 h).resolve_left e)]
theorem WG{d:bF}{s:ByteArray}{vh vs vr vc vu:Value}(hl:d.regions.length<=4096):bA Tryz.prog (.func 267) [.agg ⟨gB d vh vs vr vc vu⟩,.string s] [] [] [ai eY vr d.regions] Pf (λ_=>[]) (λ_=>[]) (Pe s (cz d)):=by
 have hgl:iN.length=8:=rfl;refine aM _ (aP 267) λB w0=>?_;refine aS (E:=eY) (v:=vr) (xs:=d.regions) (by simp) λa1 c1 e1=>?_;subst e1;refine go ?_;intro b1;refine go ?_;refine ay WC (next:=λag _=>?_);refine bn (gz (E:=bC) (v:=.slice ag iN.length iN.length) (xs:=iN)) (h:=?_);refine go ?_;refine aU (λk=>iN.length - k) (λk:Nat=>[(7,.int .i64 (k:Int))]) (λ_=>[]) (λ_=>[]) (λk=>k<=iN.length/\s∉iN.take k) 0 ⟨by omega,by simp⟩ (body:=?_);rintro k ⟨hk,hno⟩;refine go ?_;refine aA rfl (λh1=>?_) (λh1=>?_)
 ·refine go ?_;refine bi bC (xs:=iN) (next:=λ_ _ x (_:Unit) hx=>?_);refine go ?_;refine kw rfl (λh2=>?_) (λh2=>?_)
  ·rw[eB]at h2;have h2:=iI h2;subst h2;refine go ?_;exact ah (k,true) (hv:=rfl) (hp:=⟨⟨λ_=>je _ (aZ hx),λ_=>rfl⟩,λ_=>(ah0 (aZ hx)).trans (FZ hx hno)⟩)
  ·rw[eB]at h2;have h2:=nC h2;refine go ?_;refine aN (k+1) (by omega) ⟨by omega,?_⟩;rw[bZ hx,dX,not_or];exact⟨hno,by simp;exact λe=>h2 e.symm⟩
 have hkl:k=iN.length:=by omega
 subst hkl;rw[bU]at hno;have Em:=hno;clear hno hk h1;refine go ?_;refine aU (λk=>d.regions.length - k) (λk:Nat=>[(8,.int .i64 (k:Int))]) (λ_=>[]) (λ_=>[]) (λk=>k<=d.regions.length/\s∉(oN d).take k) 0 ⟨by omega,by simp⟩ (body:=?_);rintro k ⟨hk,hno⟩;refine go ?_;refine aA rfl (λh1=>?_) (λh1=>?_)
 ·refine go ?_;refine bi eY (xs:=d.regions) (next:=λ_ _ x (_:Value) hx=>?_);have lQ:(oN d)[k]? =some x.name:=by unfold oN;rw[dm,hx];rfl
  refine go ?_;refine kw rfl (λh2=>?_) (λh2=>?_)
  ·rw[eB]at h2;have h2:=iI h2;subst h2;refine go ?_;refine ah (8+k,true) (hv:=?_) (hp:=⟨⟨λ_=>nA _ (aZ lQ),λ_=>rfl⟩,λ_=>(ahZ Em).trans ?_⟩)
   ·show Value.tuple ⟨[.int .i64 (8+(k:Int)),.bool true]⟩=.tuple ⟨[.int .i64 ((8+k:Nat):Int),.bool true]⟩;rw[show((8+k:Nat):Int)=8+(k:Int)by omega]
   ·have:=FZ lQ hno;unfold oN at this;rw[this];rfl
  ·rw[eB]at h2;have h2:=nC h2;refine go ?_;refine aN (k+1) (by omega) ⟨by omega,?_⟩;rw[bZ lQ,dX,not_or];exact⟨hno,by simp;exact λe=>h2 e.symm⟩
 have hkl:k=d.regions.length:=by omega
 subst hkl;rw[show(oN d).take d.regions.length=oN d from ry (by simp[oN])]at hno;refine go ?_;exact ah (0,false) (hv:=rfl) (hp:=⟨⟨(λh=>by cases h),λh=>by
  rcases dX.1 h with h|h
  ·exact absurd h Em
  ·exact absurd h hno⟩,(λh=>by cases h)⟩)
theorem J7{d:bF}{l:List ByteArray}{vh vs vr vc vu vl:Value}(hs:d.symbols.length<=16)(hl:l.length<9223372036854775808):
 bA Tryz.prog (.func 337) [.agg ⟨gB d vh vs vr vc vu⟩,vl] [] [] [ai fF vs d.symbols,ai bC vl l] (λy:Bool=>.tuple ⟨[.int .i64 (cond y (gK (bX d) l:Int) 0),.bool y]⟩) (λ_=>[]) (λ_=>[]) (λy=>y=true↔∀s∈l,s∈bX d):=by
 have hsl:(bX d).length<=16:=by simp[bX];exact hs
 refine aM _ (aP 337) λB w0=>?_;refine aS (E:=bC) (v:=vl) (xs:=l) (by simp) λa1 c1 e1=>?_;subst e1;refine go ?_;intro b1;refine go ?_;refine aU (λk=>l.length - k) (λk:Nat=>[(7,.int .i64 (k:Int)),(6,.int .i64 (gK (bX d) (l.take k):Int))]) (λ_=>[]) (λ_=>[]) (λk=>k<=l.length/\∀s∈l.take k,s∈bX d) 0 ⟨bR _,by simp⟩ (body:=?_);rintro k ⟨hk,hall⟩;refine go ?_;refine aA rfl (λh1=>?_) (λh1=>?_)
 ·refine go ?_;refine bi bC (xs:=l) (next:=λ_ _ x (_:Unit) hx=>?_);refine go ?_;refine ay (ahY (d:=d) (s:=x) (by omega)) (next:=λy hy=>?_);obtain⟨n,ok⟩:=y;obtain⟨hy1,hy2⟩:=hy;dsimp only at hy1 hy2;refine go ?_;cases ok with
  |false=>
   refine go ?_;exact ah false (hv:=rfl) (hp:=⟨(λh=>by cases h),λh=>by have:=hy1.2 (h x (aZ hx));cases this⟩)
  |true=>
   have hm:=hy1.1 rfl;have hp:=AZ hm;have hn:=hy2 rfl;subst hn;have h2:1<<<dZ x (bX d)<2^16:=by
    rw[Nat.shiftLeft_eq,BL];exact Nat.pow_lt_pow_right (by omega) (by omega)
   have h3:=Oa hsl (l.take k) 0 hall (by omega);refine go ?_;refine(fA rfl rfl (Sy (a:=1) (b:=dZ x (bX d)) rfl rfl (by omega) (by omega))).h ?_;refine(fA rfl rfl (SA (a:=gK (bX d) (l.take k)) (b:=1<<<dZ x (bX d)) rfl rfl (Nat.lt_trans h3 (by omega)) (by omega))).h ?_;refine go ?_;refine aN (k+1) (by omega) ⟨by omega,λs hs'=>?_⟩ (hl:=⟨rfl,by rw[Vv hx];rfl,by repeat (first|exact trivial|refine⟨rfl,?_⟩)⟩);rw[nP,hx]at hs';rcases dX.1 hs' with h|h
   ·exact hall s h
   ·have:s=x:=by simpa using h
    rw[this];exact hm
 have hkl:k=l.length:=by omega
 subst hkl;rw[bU]at hall⊢;refine go ?_;exact ah true (hv:=rfl) (hp:=⟨λ_=>hall,λ_=>rfl⟩)
theorem ah1{d:bF}{vh vs vr vc vu:Value}(hrl:d.regions.length<=4096)(hcl:d.aJ.length<=4096):
 bA Tryz.prog (.func 194) [.agg ⟨gB d vh vs vr vc vu⟩] [] [] [ai eY vr d.regions,ai bI vc d.aJ] wI (λ_=>[]) (λy=>[jr (y.e=0) (ai bI y.v (d.aJ.map (lW (cz d))))]) (λy=>y.e=0↔(dO d).Nodup/\∀c∈d.aJ,c.on∈cz d):=by
 refine aM _ (aP 194) λB w0=>?_;refine aS (E:=bI) (v:=vc) (xs:=d.aJ) (by simp) λa1 c1 e1=>?_;subst e1;refine go ?_;intro b1;refine bn (eX (b:=b1)) (h:=?_);refine go ?_;refine gH bC ?_;refine aU (λy:Nat×Value=>d.aJ.length - y.1) (λy=>[(5,.int .i64 (y.1:Int)),(4,y.2)]) (λy=>[ap bC y.2 ((dO d).take y.1)]) (λ_=>[]) (λy=>y.1<=d.aJ.length) (0,.slice none 0 0) (bR _) (hk:=by repeat (first|exact aI.nil|(apply aI.cons;(focus (repeat (first|exact az.here|apply az.there)))))) (body:=?_);rintro⟨k,v4⟩ hk;dsimp only at hk⊢;have hil:((dO d).take k).length=k:=by rw[gT];simp[dO];omega
 refine go ?_;refine aA rfl (λh1=>?_) (λh1=>?_)
 ·refine go ?_;refine bi bI (xs:=d.aJ) (next:=λ_ _ x _ hx=>?_);have lQ:(dO d)[k]? =some x.name:=by unfold dO;rw[dm,hx];rfl
  refine go ?_;intro Pg;refine go ?_;refine fB bC (xs:=(dO d).take k) x.name () (by omega) (next:=λad=>?_);rw[<- bZ lQ];refine go ?_;exact aN (k+1,.slice ad (((dO d).take k).length+1) (((dO d).take k).length+1)) (by show d.aJ.length - (k+1)<d.aJ.length - k;omega) (by show k+1<=_;omega)
 have hkl:k=d.aJ.length:=by omega
 subst hkl;rw[show(dO d).take d.aJ.length=dO d from ry (by simp[dO])];refine bn (gz (E:=bC) (v:=v4) (xs:=dO d)) (h:=?_);refine go ?_;refine ay (J6 (vl:=v4) (xs:=dO d) (by simp[dO];omega)) (next:=λ_ _=>?_);refine go ?_;refine fq rfl (λh2=>?_) (λh2=>?_)
 ·refine go ?_;refine jE (c:=(161:Int)=0) (f:=ai bI (.slice none 0 0) (d.aJ.map (lW (cz d)))) (by omega) ?_;exact ah ⟨.slice none 0 0,161⟩ (hv:=rfl) (hp:=⟨(λh=>by cases h),λh=>absurd h.1 h2⟩)
 refine go ?_;refine gH bI ?_;refine aU (λy:Nat×Value=>d.aJ.length - y.1) (λy=>[(7,.int .i64 (y.1:Int)),(6,y.2)]) (λy=>[ap bI y.2 ((d.aJ.map (lW (cz d))).take y.1)]) (λ_=>[]) (λy=>y.1<=d.aJ.length/\∀c∈d.aJ.take y.1,c.on∈cz d) (0,.slice none 0 0) ⟨bR _,by simp⟩ (hk:=by repeat (first|exact aI.nil|(apply aI.cons;(focus (repeat (first|exact az.here|apply az.there)))))) (body:=?_);rintro⟨k,v6⟩ ⟨hk,hall⟩;dsimp only at hk hall⊢;have hil:((d.aJ.map (lW (cz d))).take k).length=k:=by rw[gT,bY];omega
 refine go ?_;refine aA rfl (λh3=>?_) (λh3=>?_)
 ·refine go ?_;refine bi bI (xs:=d.aJ) (next:=λ_ _ x (_:Unit) hx=>?_);have hxm:(d.aJ.map (lW (cz d)))[k]? =some (lW (cz d) x):=by rw[dm,hx];rfl
  refine go ?_;intro b8;refine go ?_;refine ay (WG (d:=d) (s:=x.on) (vc:=.slice a1 d.aJ.length c1) (vu:=vu) hrl) (next:=λy hy=>?_);obtain⟨n,ok⟩:=y;obtain⟨hy1,hy2⟩:=hy;dsimp only at hy1 hy2;refine go ?_;cases ok with
  |false=>
   refine go ?_;refine jE (c:=(160:Int)=0) (f:=ai bI (.slice none 0 0) (d.aJ.map (lW (cz d)))) (by omega) ?_;exact ah ⟨.slice none 0 0,160⟩ (hv:=rfl) (hp:=⟨(λh=>by cases h),λh=>by have:=hy1.2 (h.2 x (aZ hx));cases this⟩)
  |true=>
   have hn:=hy2 rfl;subst hn;refine go ?_;intro b54;refine go ?_;refine fB bI (xs:=(d.aJ.map (lW (cz d))).take k) (lW (cz d) x) () (by omega) (next:=λad=>?_);rw[<- bZ hxm];refine go ?_;refine aN (k+1,.slice ad (((d.aJ.map (lW (cz d))).take k).length+1) (((d.aJ.map (lW (cz d))).take k).length+1)) (by show d.aJ.length - (k+1)<d.aJ.length - k;omega) ⟨by show k+1<=_;omega,?_⟩;show∀c∈d.aJ.take (k+1),c.on∈cz d;rw[bZ hx];intro c hc;rcases dX.1 hc with hc|hc
   ·exact hall c hc
   ·rw[bM.1 hc];exact hy1.1 rfl
 have hkl:k=d.aJ.length:=by omega
 subst hkl;rw[bU]at hall;rw[show(d.aJ.map (lW (cz d))).take d.aJ.length=d.aJ.map (lW (cz d))from ry (by simp)];refine bn (gz (E:=bI) (v:=v6) (xs:=d.aJ.map (lW (cz d)))) (h:=?_);refine go ?_;refine jP (c:=(0:Int)=0) (f:=ai bI v6 (d.aJ.map (lW (cz d)))) (by simp) ?_;exact ah ⟨v6,0⟩ (hv:=rfl) (hp:=⟨λ_=>⟨h2,hall⟩,λ_=>rfl⟩)
abbrev RlP(d:bF)(r:bN)(y:bN×Bool):Prop:=(y.2=true↔A7 (bX d) (cz d) (dO d) r)/\(y.2=true->y.1=mW (bX d) (cz d) (dO d) r)
theorem ah4{d:bF}{r:bN}{vh vs vr vc vu v1 v2:Value}(hs:d.symbols.length<=16)(hrl:d.regions.length<=4096)(hcl:d.aJ.length<=4096)(h1:r.names.length<9223372036854775808)(h2:r.others.length<9223372036854775808):
 bA Tryz.prog (.func 268) [.agg ⟨gB d vh vs vr vc vu⟩,.agg ⟨lV r v1 v2⟩] [] [] [ai fF vs d.symbols,ai eY vr d.regions,ai bI vc d.aJ,ai bC v1 r.names,ai bC v2 r.others] (λy:bN×Bool=>.tuple ⟨[.agg ⟨lV y.1 v1 v2⟩,.bool y.2]⟩) (λ_=>[]) (λ_=>[]) (RlP d r):=by
 refine aM _ (aP 268) λB w0=>?_;refine go ?_;intro b2 b3 b4;refine bn (eX (b:=b2)) (h:=?_);refine go ?_;refine fq (p:=r.on=⟨⟨[]⟩⟩) (by show Value.bool _=_;rw[eB]) (λh3=>?_) (λh3=>?_)
 ·refine go ?_;refine ay (WG (d:=d) (s:=r.on) hrl) (next:=λy hy=>?_);obtain⟨n,ok⟩:=y;obtain⟨hy1,hy2⟩:=hy;dsimp only at hy1 hy2;refine go ?_;cases ok with
  |false=>
   refine go ?_;exact ah ({r with family:=0},false) (hv:=rfl) (hp:=⟨⟨(λh=>by cases h),λh=>by rcases h.on with h|h;exact absurd h h3;have:=hy1.2 h;cases this⟩,(λh=>by cases h)⟩)
  |true=>
   have hon:r.on=⟨⟨[]⟩⟩\/r.on∈cz d:=.inr (hy1.1 rfl);have hn:=hy2 rfl;subst hn;have hfm:(if r.on=⟨⟨[]⟩⟩then(0:Int)else(dZ r.on (cz d):Int))=(dZ r.on (cz d):Int):=if_neg h3;refine go ?_;refine ay (J7 (d:=d) (l:=r.names) (vl:=v1) hs h1) (next:=λz1 hz1=>?_);refine go ?_;refine ay (J7 (d:=d) (l:=r.others) (vl:=v2) hs h2) (next:=λz2 hz2=>?_);refine go ?_;refine fq (p:=r.dS=⟨⟨[]⟩⟩) (by show Value.bool _=_;rw[eB]) (λh4=>?_) (λh4=>?_)
   ·refine go ?_;refine ay (WE (d:=d) (s:=r.dS) (by omega)) (next:=λy hy=>?_);obtain⟨n,ok⟩:=y;obtain⟨hy1,hy2⟩:=hy;dsimp only at hy1 hy2;refine go ?_;cases ok with
    |false=>
     refine go ?_;exact ah ({r with family:=(dZ r.on (cz d):Int),set:=cond z1 (gK (bX d) r.names:Int) 0,other:=cond z2 (gK (bX d) r.others:Int) 0,aL:= -1},false) (hv:=rfl) (hp:=⟨⟨(λh=>by cases h),λh=>by rcases h.dS with h|h;exact absurd h h4;have:=hy1.2 h;cases this⟩,(λh=>by cases h)⟩)
    |true=>
     have hby:r.dS=⟨⟨[]⟩⟩\/r.dS∈dO d:=.inr (hy1.1 rfl);have hn:=hy2 rfl;subst hn;have hcm:(if r.dS=⟨⟨[]⟩⟩then(-1:Int)else(dZ r.dS (dO d):Int))=(dZ r.dS (dO d):Int):=if_neg h4;refine go ?_;cases z1 with
     |false=>
      refine go ?_;exact ah ({r with family:=(dZ r.on (cz d):Int),set:=0,other:=cond z2 (gK (bX d) r.others:Int) 0,aL:=(dZ r.dS (dO d):Int)},false) (hv:=rfl) (hp:=⟨⟨(λh=>by cases h),λh=>by have:=hz1.2 h.names;cases this⟩,(λh=>by cases h)⟩)
     |true=>
      cases z2 with
      |false=>
       refine go ?_;exact ah ({r with family:=(dZ r.on (cz d):Int),set:=(gK (bX d) r.names:Int),other:=0,aL:=(dZ r.dS (dO d):Int)},false) (hv:=rfl) (hp:=⟨⟨(λh=>by cases h),λh=>by have:=hz2.2 h.others;cases this⟩,(λh=>by cases h)⟩)
      |true=>
       refine go ?_;refine ah ({r with family:=(dZ r.on (cz d):Int),set:=(gK (bX d) r.names:Int),other:=(gK (bX d) r.others:Int),aL:=(dZ r.dS (dO d):Int)},true) (hv:=rfl) (hp:=⟨⟨λ_=>⟨hon,hz1.1 rfl,hz2.1 rfl,hby⟩,λ_=>rfl⟩,λ_=>?_⟩);unfold mW;rw[hfm,hcm]
   ·have hby:r.dS=⟨⟨[]⟩⟩\/r.dS∈dO d:=.inl h4;have hcm:(if r.dS=⟨⟨[]⟩⟩then(-1:Int)else(dZ r.dS (dO d):Int))= -1:=if_pos h4;refine go ?_;cases z1 with
    |false=>
     refine go ?_;exact ah ({r with family:=(dZ r.on (cz d):Int),set:=0,other:=cond z2 (gK (bX d) r.others:Int) 0,aL:=(-1:Int)},false) (hv:=rfl) (hp:=⟨⟨(λh=>by cases h),λh=>by have:=hz1.2 h.names;cases this⟩,(λh=>by cases h)⟩)
    |true=>
     cases z2 with
     |false=>
      refine go ?_;exact ah ({r with family:=(dZ r.on (cz d):Int),set:=(gK (bX d) r.names:Int),other:=0,aL:=(-1:Int)},false) (hv:=rfl) (hp:=⟨⟨(λh=>by cases h),λh=>by have:=hz2.2 h.others;cases this⟩,(λh=>by cases h)⟩)
     |true=>
      refine go ?_;refine ah ({r with family:=(dZ r.on (cz d):Int),set:=(gK (bX d) r.names:Int),other:=(gK (bX d) r.others:Int),aL:=(-1:Int)},true) (hv:=rfl) (hp:=⟨⟨λ_=>⟨hon,hz1.1 rfl,hz2.1 rfl,hby⟩,λ_=>rfl⟩,λ_=>?_⟩);unfold mW;rw[hfm,hcm]
 ·have hon:r.on=⟨⟨[]⟩⟩\/r.on∈cz d:=.inl h3;have hfm:(if r.on=⟨⟨[]⟩⟩then(0:Int)else(dZ r.on (cz d):Int))=0:=if_pos h3;refine go ?_;refine ay (J7 (d:=d) (l:=r.names) (vl:=v1) hs h1) (next:=λz1 hz1=>?_);refine go ?_;refine ay (J7 (d:=d) (l:=r.others) (vl:=v2) hs h2) (next:=λz2 hz2=>?_);refine go ?_;refine fq (p:=r.dS=⟨⟨[]⟩⟩) (by show Value.bool _=_;rw[eB]) (λh4=>?_) (λh4=>?_)
  ·refine go ?_;refine ay (WE (d:=d) (s:=r.dS) (by omega)) (next:=λy hy=>?_);obtain⟨n,ok⟩:=y;obtain⟨hy1,hy2⟩:=hy;dsimp only at hy1 hy2;refine go ?_;cases ok with
   |false=>
    refine go ?_;exact ah ({r with family:=(0:Int),set:=cond z1 (gK (bX d) r.names:Int) 0,other:=cond z2 (gK (bX d) r.others:Int) 0,aL:= -1},false) (hv:=rfl) (hp:=⟨⟨(λh=>by cases h),λh=>by rcases h.dS with h|h;exact absurd h h4;have:=hy1.2 h;cases this⟩,(λh=>by cases h)⟩)
   |true=>
    have hby:r.dS=⟨⟨[]⟩⟩\/r.dS∈dO d:=.inr (hy1.1 rfl);have hn:=hy2 rfl;subst hn;have hcm:(if r.dS=⟨⟨[]⟩⟩then(-1:Int)else(dZ r.dS (dO d):Int))=(dZ r.dS (dO d):Int):=if_neg h4;refine go ?_;cases z1 with
    |false=>
     refine go ?_;exact ah ({r with family:=(0:Int),set:=0,other:=cond z2 (gK (bX d) r.others:Int) 0,aL:=(dZ r.dS (dO d):Int)},false) (hv:=rfl) (hp:=⟨⟨(λh=>by cases h),λh=>by have:=hz1.2 h.names;cases this⟩,(λh=>by cases h)⟩)
    |true=>
     cases z2 with
     |false=>
      refine go ?_;exact ah ({r with family:=(0:Int),set:=(gK (bX d) r.names:Int),other:=0,aL:=(dZ r.dS (dO d):Int)},false) (hv:=rfl) (hp:=⟨⟨(λh=>by cases h),λh=>by have:=hz2.2 h.others;cases this⟩,(λh=>by cases h)⟩)
     |true=>
      refine go ?_;refine ah ({r with family:=(0:Int),set:=(gK (bX d) r.names:Int),other:=(gK (bX d) r.others:Int),aL:=(dZ r.dS (dO d):Int)},true) (hv:=rfl) (hp:=⟨⟨λ_=>⟨hon,hz1.1 rfl,hz2.1 rfl,hby⟩,λ_=>rfl⟩,λ_=>?_⟩);unfold mW;rw[hfm,hcm]
  ·have hby:r.dS=⟨⟨[]⟩⟩\/r.dS∈dO d:=.inl h4;have hcm:(if r.dS=⟨⟨[]⟩⟩then(-1:Int)else(dZ r.dS (dO d):Int))= -1:=if_pos h4;refine go ?_;cases z1 with
   |false=>
    refine go ?_;exact ah ({r with family:=(0:Int),set:=0,other:=cond z2 (gK (bX d) r.others:Int) 0,aL:=(-1:Int)},false) (hv:=rfl) (hp:=⟨⟨(λh=>by cases h),λh=>by have:=hz1.2 h.names;cases this⟩,(λh=>by cases h)⟩)
   |true=>
    cases z2 with
    |false=>
     refine go ?_;exact ah ({r with family:=(0:Int),set:=(gK (bX d) r.names:Int),other:=0,aL:=(-1:Int)},false) (hv:=rfl) (hp:=⟨⟨(λh=>by cases h),λh=>by have:=hz2.2 h.others;cases this⟩,(λh=>by cases h)⟩)
    |true=>
     refine go ?_;refine ah ({r with family:=(0:Int),set:=(gK (bX d) r.names:Int),other:=(gK (bX d) r.others:Int),aL:=(-1:Int)},true) (hv:=rfl) (hp:=⟨⟨λ_=>⟨hon,hz1.1 rfl,hz2.1 rfl,hby⟩,λ_=>rfl⟩,λ_=>?_⟩);unfold mW;rw[hfm,hcm]
theorem ah5{d:bF}{vh vs vr vc vu:Value}(hs:d.symbols.length<=16)(hD:ng d):
 bA Tryz.prog (.func 195) [.agg ⟨gB d vh vs vr vc vu⟩] [] [] [ai fF vs d.symbols,ai eY vr d.regions,ai bI vc d.aJ,ai aY vu d.rules] wI (λ_=>[]) (λy=>[jr (y.e=0) (ai aY y.v (d.rules.map (mW (bX d) (cz d) (dO d))))]) (λy=>y.e=0↔(nL d).Nodup/\∀r∈d.rules,A7 (bX d) (cz d) (dO d) r):=by
 have hrl:=hD.regs;have hcl:=hD.jg;have yc:=hD.kX;have hrn:=hD.rY;refine aM _ (aP 195) λB w0=>?_;refine aS (E:=aY) (v:=vu) (xs:=d.rules) (by simp) λa1 c1 e1=>?_;subst e1;refine go ?_;intro b1;refine bn (eX (b:=b1)) (h:=?_);refine go ?_;refine gH bC ?_;refine aU (λy:Nat×Value=>d.rules.length - y.1) (λy=>[(5,.int .i64 (y.1:Int)),(4,y.2)]) (λy=>[ap bC y.2 ((nL d).take y.1)]) (λ_=>[]) (λy=>y.1<=d.rules.length) (0,.slice none 0 0) (bR _) (hk:=by repeat (first|exact aI.nil|(apply aI.cons;(focus (repeat (first|exact az.here|apply az.there)))))) (body:=?_);rintro⟨k,v4⟩ hk;dsimp only at hk⊢;have hil:((nL d).take k).length=k:=by rw[gT];simp[nL];omega
 refine go ?_;refine aA rfl (λh1=>?_) (λh1=>?_)
 ·refine go ?_;refine bi aY (xs:=d.rules) (next:=λ_ _ x _ hx=>?_);have lQ:(nL d)[k]? =some x.name:=by unfold nL;rw[dm,hx];rfl
  refine go ?_;intro Pg;refine go ?_;refine fB bC (xs:=(nL d).take k) x.name () (by omega) (next:=λad=>?_);rw[<- bZ lQ];refine go ?_;exact aN (k+1,.slice ad (((nL d).take k).length+1) (((nL d).take k).length+1)) (by show d.rules.length - (k+1)<d.rules.length - k;omega) (by show k+1<=_;omega)
 have hkl:k=d.rules.length:=by omega
 subst hkl;rw[show(nL d).take d.rules.length=nL d from ry (by simp[nL])];refine bn (gz (E:=bC) (v:=v4) (xs:=nL d)) (h:=?_);refine go ?_;refine ay (J6 (vl:=v4) (xs:=nL d) (by simp[nL];omega)) (next:=λ_ _=>?_);refine go ?_;refine fq rfl (λh2=>?_) (λh2=>?_)
 ·refine go ?_;refine jE (c:=(161:Int)=0) (f:=ai aY (.slice none 0 0) (d.rules.map (mW (bX d) (cz d) (dO d)))) (by omega) ?_;exact ah ⟨.slice none 0 0,161⟩ (hv:=rfl) (hp:=⟨(λh=>by cases h),λh=>absurd h.1 h2⟩)
 refine go ?_;refine gH aY ?_;generalize hf:mW (bX d) (cz d) (dO d)=f;refine aU (λy:Nat×Value=>d.rules.length - y.1) (λy=>[(7,.int .i64 (y.1:Int)),(6,y.2)]) (λy=>[ap aY y.2 ((d.rules.map f).take y.1)]) (λ_=>[]) (λy=>y.1<=d.rules.length/\∀r∈d.rules.take y.1,A7 (bX d) (cz d) (dO d) r) (0,.slice none 0 0) ⟨bR _,by simp⟩ (hk:=by repeat (first|exact aI.nil|(apply aI.cons;(focus (repeat (first|exact az.here|apply az.there)))))) (body:=?_);rintro⟨k,v6⟩ ⟨hk,hall⟩;dsimp only at hk hall⊢;have hil:((d.rules.map f).take k).length=k:=by rw[gT,bY];omega
 refine go ?_;refine aA rfl (λh3=>?_) (λh3=>?_)
 ·refine go ?_;refine bi aY (xs:=d.rules) (next:=λ_ _ x (vx:Value×Value) hx=>?_);have hxm:(d.rules.map f)[k]? =some (f x):=by rw[dm,hx];rfl
  have hxl:=hrn x (aZ hx);refine go ?_;intro b8;refine ay (ah4 (d:=d) (r:=x) (vu:=.slice a1 d.rules.length c1) (v1:=vx.1) (v2:=vx.2) hs hrl hcl hxl.1 hxl.2) (next:=λy hy=>?_);obtain⟨z,ok⟩:=y;obtain⟨hy1,hy2⟩:=hy;dsimp only at hy1 hy2;refine go ?_;cases ok with
  |false=>
   refine go ?_;refine jE (c:=(160:Int)=0) (f:=ai aY (.slice none 0 0) (d.rules.map f)) (by omega) ?_;exact ah ⟨.slice none 0 0,160⟩ (hv:=rfl) (hp:=⟨(λh=>by cases h),λh=>by have:=hy1.2 (h.2 x (aZ hx));cases this⟩)
  |true=>
   have hz:=hy2 rfl;rw[hf]at hz;have hzn:z.names=x.names/\z.others=x.others:=by rw[hz,<- hf];exact⟨rfl,rfl⟩
   refine go ?_;intro b54;refine go ?_;refine eF (ai bC vx.1 z.names) (λw hw=>by rw[hzn.1];exact hw (ai bC vx.1 x.names) (by simp)) ?_;refine eF (ai bC vx.2 z.others) (λw hw=>by rw[hzn.2];exact hw (ai bC vx.2 x.others) (by simp)) ?_;refine fB aY (xs:=(d.rules.map f).take k) z vx (by omega) (next:=λad=>?_);rw[hz,<- bZ hxm];refine go ?_;refine aN (k+1,.slice ad (((d.rules.map f).take k).length+1) (((d.rules.map f).take k).length+1)) (by show d.rules.length - (k+1)<d.rules.length - k;omega) ⟨by show k+1<=_;omega,?_⟩;show∀c∈d.rules.take (k+1),A7 (bX d) (cz d) (dO d) c;rw[bZ hx];intro c hc;rcases dX.1 hc with hc|hc
   ·exact hall c hc
   ·rw[bM.1 hc];exact hy1.1 rfl
 have hkl:k=d.rules.length:=by omega
 subst hkl;rw[bU]at hall;rw[show(d.rules.map f).take d.rules.length=d.rules.map f from ry (by simp)];refine bn (gz (E:=aY) (v:=v6) (xs:=d.rules.map f)) (h:=?_);refine go ?_;refine jP (c:=(0:Int)=0) (f:=ai aY v6 (d.rules.map f)) (by simp) ?_;exact ah ⟨v6,0⟩ (hv:=rfl) (hp:=⟨λ_=>⟨h2,hall⟩,λ_=>rfl⟩)
theorem WH{d:bF}{vh vs vr vc vu:Value}(hD:ng d):
 bA Tryz.prog (.func 132) [.agg ⟨gB d vh vs vr vc vu⟩] [] [] (lG d vh vs vr vc vu) (rX d vh vs vr) (λ_=>[]) (oL d) (Bg d):=by
 have hsl:=hD.eH;have hrl:=hD.regs;have hcl:=hD.jg;have yc:=hD.kX;have hgl:iN.length=8:=rfl;refine aM _ (aP 132) λB w0=>?_;refine aS (E:=fF) (v:=vs) (xs:=d.symbols) (by simp) λa1 c1 e1=>?_;subst e1;refine aS (E:=eY) (v:=vr) (xs:=d.regions) (by simp) λa2 c2 e2=>?_;subst e2;refine go ?_;intro b1 b2;refine go ?_;refine aA rfl (λhs=>?_) (λhs=>?_)
 ·refine go ?_;exact ah ⟨false,2,.nilFunc,.nilFunc⟩ (hv:=rfl) (hp:=⟨(λh=>by cases h),λ_=>⟨by show(2:Int)≠0;omega,λh=>by have:=h.eH;omega⟩⟩)
 refine go ?_;refine gH bC ?_;refine aU (λy:Nat×Value=>d.symbols.length - y.1) (λy=>[(5,.int .i64 (y.1:Int)),(4,y.2)]) (λy=>[ap bC y.2 ((bX d).take y.1)]) (λ_=>[]) (λy=>y.1<=d.symbols.length) (0,.slice none 0 0) (bR _) (hk:=by repeat (first|exact aI.nil|(apply aI.cons;(focus (repeat (first|exact az.here|apply az.there)))))) (body:=?_);rintro⟨k,v4⟩ hk;dsimp only at hk⊢;have hil:((bX d).take k).length=k:=by rw[gT];simp[bX];omega
 refine go ?_;refine aA rfl (λh1=>?_) (λh1=>?_)
 ·refine go ?_;refine bi fF (xs:=d.symbols) (next:=λ_ _ x _ hx=>?_);have lQ:(bX d)[k]? =some x.name:=by unfold bX;rw[dm,hx];rfl
  refine go ?_;intro Pg;refine go ?_;refine fB bC (xs:=(bX d).take k) x.name () (by omega) (next:=λad=>?_);rw[<- bZ lQ];refine go ?_;exact aN (k+1,.slice ad (((bX d).take k).length+1) (((bX d).take k).length+1)) (by show d.symbols.length - (k+1)<d.symbols.length - k;omega) (by show k+1<=_;omega)
 have hkl:k=d.symbols.length:=by omega
 subst hkl;rw[show(bX d).take d.symbols.length=bX d from ry (by simp[bX])];refine bn (gz (E:=bC) (v:=v4) (xs:=bX d)) (h:=?_);refine go ?_;refine ay (J6 (vl:=v4) (xs:=bX d) (by simp[bX];omega)) (next:=λ_ _=>?_);refine go ?_;refine fq rfl (λk1=>?_) (λk1=>?_)
 ·refine go ?_;exact ah ⟨false,161,.nilFunc,.nilFunc⟩ (hv:=rfl) (hp:=⟨(λh=>by cases h),λ_=>⟨by show(161:Int)≠0;omega,λh=>k1 h.Ub⟩⟩)
 refine go ?_;refine ay WC (next:=λag _=>?_);refine go ?_;refine aU (λy:Nat×Value=>d.regions.length - y.1) (λy=>[(7,.int .i64 (y.1:Int)),(6,y.2)]) (λy=>[ap bC y.2 (iN++(oN d).take y.1)]) (λ_=>[]) (λy=>y.1<=d.regions.length) (0,.slice ag iN.length iN.length) (bR _) (hk:=by rw[DK,gU];repeat (first|exact aI.nil|(apply aI.cons;(focus (repeat (first|exact az.here|apply az.there)))))) (body:=?_);rintro⟨k,v6⟩ hk;dsimp only at hk⊢;have hil:(iN++(oN d).take k).length=8+k:=by rw[iH,gT,hgl];simp[oN];omega
 refine go ?_;refine aA rfl (λh1=>?_) (λh1=>?_)
 ·refine go ?_;refine bi eY (xs:=d.regions) (next:=λ_ _ x (_:Value) hx=>?_);have lQ:(oN d)[k]? =some x.name:=by unfold oN;rw[dm,hx];rfl
  refine go ?_;intro Pg;refine go ?_;refine fB bC (xs:=iN++(oN d).take k) x.name () (by omega) (next:=λad=>?_);rw[List.append_assoc,<- bZ lQ];refine go ?_;exact aN (k+1,.slice ad ((iN++(oN d).take k).length+1) ((iN++(oN d).take k).length+1)) (by show d.regions.length - (k+1)<d.regions.length - k;omega) (by show k+1<=_;omega)
 have hkl:k=d.regions.length:=by omega
 subst hkl;rw[show iN++(oN d).take d.regions.length=cz d from by rw[ry (by simp[oN])];rfl];refine bn (gz (E:=bC) (v:=v6) (xs:=cz d)) (h:=?_);refine go ?_;refine ay (J6 (vl:=v6) (xs:=cz d) (by simp[cz];omega)) (next:=λ_ _=>?_);refine go ?_;refine fq rfl (λk2=>?_) (λk2=>?_)
 ·refine go ?_;exact ah ⟨false,161,.nilFunc,.nilFunc⟩ (hv:=rfl) (hp:=⟨(λh=>by cases h),λ_=>⟨by show(161:Int)≠0;omega,λh=>k2 h.Uc⟩⟩)
 refine go ?_;refine ay (ah1 (d:=d) (vh:=vh) (vs:=.slice a1 d.symbols.length c1) (vr:=.slice a2 d.regions.length c2) (vc:=vc) (vu:=vu) hrl hcl) (next:=λy hy=>?_);obtain⟨wc,e⟩:=y;dsimp only at hy⊢;refine go ?_;refine aA rfl (λk3=>?_) (λk3=>?_)
 ·refine go ?_;exact ah ⟨false,e,.nilFunc,.nilFunc⟩ (hv:=rfl) (hp:=⟨(λh=>by cases h),λ_=>⟨k3,λh=>k3 (hy.2 ⟨h.Ud,h.Nf⟩)⟩⟩)
 have he:e=0:=ic.1 k3;subst he;obtain⟨p1,p2⟩:=hy.1 rfl;clear hy k3;refine eF (ai bI wc (Kd.bE d).aJ) (λw hw=>hw (jr ((0:Int)=0) (ai bI wc (d.aJ.map (lW (cz d))))) (by simp) rfl) ?_;refine go ?_;refine ay (ah5 (d:=d) (vh:=vh) (vs:=.slice a1 d.symbols.length c1) (vr:=.slice a2 d.regions.length c2) (vc:=vc) (vu:=vu) (by omega) hD) (next:=λy hy=>?_);obtain⟨wu,e⟩:=y;dsimp only at hy⊢;refine go ?_;refine aA rfl (λk3=>?_) (λk3=>?_)
 ·refine go ?_;exact ah ⟨false,e,.nilFunc,.nilFunc⟩ (hv:=rfl) (hp:=⟨(λh=>by cases h),λ_=>⟨k3,λh=>k3 (hy.2 ⟨h.Ue,h.rV⟩)⟩⟩)
 have he:e=0:=ic.1 k3;subst he;obtain⟨p3,p4⟩:=hy.1 rfl;clear hy k3;refine eF (ai aY wu (Kd.bE d).rules) (λw hw=>hw (jr ((0:Int)=0) (ai aY wu (d.rules.map (mW (bX d) (cz d) (dO d))))) (by simp) rfl) ?_;refine aS (E:=bI) (v:=wc) (xs:=(Kd.bE d).aJ) (by simp) λa3 c3 e3=>?_;subst e3;refine aS (E:=aY) (v:=wu) (xs:=(Kd.bE d).rules) (by simp) λa4 c4 e4=>?_;subst e4;refine go ?_;refine ah ⟨true,0,.slice a3 (Kd.bE d).aJ.length c3,.slice a4 (Kd.bE d).rules.length c4⟩ (hv:=rfl) (hp:=⟨λ_=>⟨rfl,⟨by omega,k1,k2,p1,p2,p3,p4⟩⟩,(λh=>by cases h)⟩) (hF:=?_);show Sub [ai bI _ (Kd.bE d).aJ,ai aY _ (Kd.bE d).rules] _;exact .cons (by simp) (.cons (by simp) .nil)
