/-
  Part LibUW.
-/
import Derived.Test.YtfakljdleblkoaaGreatLibDW
set_option linter.all false
set_option maxRecDepth 10000
set_option maxHeartbeats 4000000
namespace Go.Proofs.YtfakljdleblkoaaGreat
open Go.Ideal Kd
noncomputable def VT:gU:=⟨2,[(.tmp 0)],(.seq (kO [kS 0 (.mW (.const vS))]) (.seq (kO [⟨⟨(some 1),none,(.wB 9 8 [vE,vE,vE,vE,vE,vE,vE,vE] [⟨0,⟨1,(.const (.string ⟨⟨[99,101,108,108,115]⟩⟩))⟩⟩,⟨1,⟨1,(.const (.string ⟨⟨[114,111,119,115]⟩⟩))⟩⟩,⟨2,⟨1,(.const (.string ⟨⟨[99,111,108,117,109,110,115]⟩⟩))⟩⟩,⟨3,⟨1,(.const (.string ⟨⟨[100,105,97,103,111,110,97,108,115]⟩⟩))⟩⟩,⟨4,⟨1,(.const (.string ⟨⟨[97,114,111,117,110,100]⟩⟩))⟩⟩,⟨5,⟨1,(.const (.string ⟨⟨[110,101,97,114]⟩⟩))⟩⟩,⟨6,⟨1,(.const (.string ⟨⟨[112,97,105,114,115]⟩⟩))⟩⟩,⟨7,⟨1,(.const (.string ⟨⟨[97,108,108]⟩⟩))⟩⟩])⟩,[]⟩,kS 0 (.mW 1)]) .ret))⟩
theorem ahc:kU Tryz.prog 159=some VT:=vA
theorem Fq{s:ByteArray}:∀{l:List ByteArray} {k:Nat},l[k]? =some s->s∉l.take k->dS s l=k
 |[],k,h,_=>by simp at h
 |a::l,0,h,_=>by
  have h:a=s:=wq
  unfold dS;rw[if_pos h.symm]
 |a::l,k+1,h,hn=>by
  have h:l[k]? =some s:=wq
  rw[List.take_succ_cons,dH,not_or]at hn;unfold dS;rw[if_neg hn.1,Fq h hn.2]
theorem VU{α:Type}{xs:List α}{k:Nat}{x:α}(hx:xs[k]? =some x):(xs.take (k+1)).Nodup↔(xs.take k).Nodup/\x∉xs.take k:=by
 rw[bU hx,gX];constructor
 ·rintro⟨h1,_,h2⟩;exact⟨h1,λh=>h2 x h x (bK.2 rfl) rfl⟩
 ·rintro⟨h1,h2⟩;exact⟨h1,vm,λa ha b hb e=>h2 (by rw[bK.1 hb]at e;rw[<- e];exact ha)⟩
variable{vl:Value}
theorem JG{xs:List ByteArray}(hl:xs.length<9223372036854775808):dL Tryz.prog 158 [vl] [ai bD vl xs] (.bool (!decide xs.Nodup)):=by
 refine aH _ (aN 158) λB w0=>?_;refine aT (E:=bD) (v:=vl) (xs:=xs) vm λa1 c1 e1=>?_;subst e1;refine go ?_;refine aW (λk=>xs.length - k) (λk:Nat=>[(3,.int .i64 (k:Int))]) (λ_=>[]) (λ_=>[]) (λk=>k<=xs.length/\(xs.take k).Nodup) 0 ⟨vj,vm⟩ (body:=?_);rintro k ⟨hk,hnd⟩;refine go ?_;refine az rfl (λh1=>?_) (λh1=>?_)
 ·have hx:xs[k]? =some (xs[k]'(vj)):=bW _;generalize xs[k]'(vj)=x at hx;refine go ?_;refine aW (λj=>k - j) (λj:Nat=>[(4,.int .i64 (j:Int))]) (λ_=>[]) (λ_=>[]) (λj=>j<=k/\x∉xs.take j) 0 ⟨vj,vm⟩ (body:=?_);rintro j ⟨hj,hno⟩;refine go ?_;refine az rfl (λh2=>?_) (λh2=>?_)
  ·refine go ?_;refine bq bD (xs:=xs) (next:=λ_ _ x' (_:Unit) hx'=>?_);cases hx.symm.trans hx';refine go ?_;refine bq bD (xs:=xs) (next:=λ_ _ y (_:Unit) hy=>?_);refine go ?_;refine jh rfl (λh3=>?_) (λh3=>?_)
   ·rw[dY]at h3;have h3:=gQ h3;subst h3;refine go ?_;refine ah () (hv:=?_) (hp:=trivial);rw[aS (λhn=>by
     have h4:(xs.take (k+1)).Nodup:=hn.sublist (FM _ _);rw[VU hx]at h4;exact h4.2 (uW.2 ⟨j,by rw[tO,if_pos vj];exact hy⟩))];rfl
   ·rw[dY]at h3;have h3:=mV h3;refine go ?_;refine aM (j+1) vj ⟨vj,?_⟩;rw[bU hy,dW,not_or];exact⟨hno,by simp;exact h3⟩
  have hjk:j=k:=vj
  subst hjk;refine go ?_;exact aM (j+1) vj ⟨vj,(VU hx).2 ⟨hnd,hno⟩⟩
 have hkl:k=xs.length:=vj
 subst hkl;rw[bJ]at hnd;refine go ?_;refine ah () (hv:=?_) (hp:=trivial);rw[eY hnd];rfl
theorem VV:aU Tryz.prog (.func 159) [] [] [] [] (λa:Option Addr=>.slice a iG.length iG.length) (λa=>[ap bD (.slice a iG.length iG.length) iG]) (λ_=>[]) (λ_=>True):=by
 refine aH VT ahc λB w0=>?_;refine go ?_;intro b;refine go ?_;refine sQ (b:=b) (m:=iG.length) (f:=0) bD (aF:=iG.map λs=>(s,())) rfl (.inl rfl) ?_ (hk:=ay.here);refine SL (E:=bD) (aF:=iG.map λs=>(s,())) wj ?_ (λw hw p hp f hf=>by cases hf);show R _ _ _ [ap bD (.slice (some ⟨b,0,some 0⟩) iG.length iG.length) iG] _;exact ah (some ⟨b,0,some 0⟩) (hv:=rfl) (hp:=trivial)
def Ov(s:ByteArray)(l:List ByteArray)(y:Nat×Bool):Prop:=(y.2=true↔s∈l)/\(y.2=true->dS s l=y.1)
abbrev Ow(y:Nat×Bool):Value:=.tuple ⟨[.int .i64 (y.1:Int),.bool y.2]⟩
variable{d:bE}{vh vs vr vc vu:Value}{s:ByteArray}
theorem ahd(hl:d.symbols.length<9223372036854775808):aU Tryz.prog (.func 317) [.agg ⟨gu d vh vs vr vc vu⟩,.string s] [] [] [ai eP vs d.symbols] Ow (λ_=>[]) (λ_=>[]) (Ov s (bN d)):=by
 refine aH _ (aN 317) λB w0=>?_;refine aT (E:=eP) (v:=vs) (xs:=d.symbols) vm λa1 c1 e1=>?_;subst e1;refine go ?_;intro b1;refine go ?_;refine aW (λk=>d.symbols.length - k) (λk:Nat=>[(6,.int .i64 (k:Int))]) (λ_=>[]) (λ_=>[]) (λk=>k<=d.symbols.length/\s∉(bN d).take k) 0 ⟨vj,vm⟩ (body:=?_);rintro k ⟨hk,hno⟩;refine go ?_;refine az rfl (λh1=>?_) (λh1=>?_)
 ·refine go ?_;refine bq eP (xs:=d.symbols) (next:=λ_ _ x _ hx=>?_);have kw:(bN d)[k]? =some x.name:=by unfold bN;rw[dK,hx];rfl
  exact eI
 have hkl:k=d.symbols.length:=vj
 subst hkl;rw[show(bN d).take d.symbols.length=bN d from tV (by simp[bN])]at hno;exact gE
theorem VW(hl:d.aJ.length<9223372036854775808):aU Tryz.prog (.func 292) [.agg ⟨gu d vh vs vr vc vu⟩,.string s] [] [] [ai bP vc d.aJ] Ow (λ_=>[]) (λ_=>[]) (Ov s (dI d)):=by
 refine aH _ (aN 292) λB w0=>?_;refine aT (E:=bP) (v:=vc) (xs:=d.aJ) vm λa1 c1 e1=>?_;subst e1;refine go ?_;intro b1;refine go ?_;refine aW (λk=>d.aJ.length - k) (λk:Nat=>[(6,.int .i64 (k:Int))]) (λ_=>[]) (λ_=>[]) (λk=>k<=d.aJ.length/\s∉(dI d).take k) 0 ⟨vj,vm⟩ (body:=?_);rintro k ⟨hk,hno⟩;refine go ?_;refine az rfl (λh1=>?_) (λh1=>?_)
 ·refine go ?_;refine bq bP (xs:=d.aJ) (next:=λ_ _ x _ hx=>?_);have kw:(dI d)[k]? =some x.name:=by unfold dI;rw[dK,hx];rfl
  exact eI
 have hkl:k=d.aJ.length:=vj
 subst hkl;rw[show(dI d).take d.aJ.length=dI d from tV (by simp[dI])]at hno;exact gE
def oC(d:bE):List ByteArray:=d.regions.map (·.name)
variable{a b:List ByteArray}
theorem ahe(h:s∉a):dS s (a++b)=a.length+dS s b:=by
 induction a with
 |nil=>simp
 |cons x a ih=>
  rw[dH,not_or]at h;show(if s=x then 0 else dS s (a++b)+1)=_;rw[if_neg h.1,ih h.2,oD];omega
theorem ahf(h:s∈a):dS s (a++b)=dS s a:=by
 induction a with
 |nil=>cases h
 |cons x a ih=>
  show(if s=x then 0 else dS s (a++b)+1)=if s=x then 0 else dS s a+1
  by_cases e:s=x
  ·rw[if_pos e,if_pos e]
  ·rw[if_neg e,if_neg e,ih ((dH.1 h).resolve_left e)]
theorem VX(hl:d.regions.length<=4096):aU Tryz.prog (.func 218) [.agg ⟨gu d vh vs vr vc vu⟩,.string s] [] [] [ai eZ vr d.regions] Ow (λ_=>[]) (λ_=>[]) (Ov s (bX d)):=by
 have hgl:iG.length=8:=rfl;refine aH _ (aN 218) λB w0=>?_;refine aT (E:=eZ) (v:=vr) (xs:=d.regions) vm λa1 c1 e1=>?_;subst e1;refine go ?_;intro b1;refine go ?_;refine ax VV (next:=λag _=>?_);refine bi (fQ (E:=bD) (v:=.slice ag iG.length iG.length) (xs:=iG)) (h:=?_);refine go ?_;refine aW (λk=>iG.length - k) (λk:Nat=>[(7,.int .i64 (k:Int))]) (λ_=>[]) (λ_=>[]) (λk=>k<=iG.length/\s∉iG.take k) 0 ⟨vj,vm⟩ (body:=?_);rintro k ⟨hk,hno⟩;refine go ?_;refine az rfl (λh1=>?_) (λh1=>?_)
 ·refine go ?_;refine bq bD (xs:=iG) (next:=λ_ _ x (_:Unit) hx=>?_);refine go ?_;refine jh rfl (λh2=>?_) (λh2=>?_)
  ·rw[dY]at h2;have h2:=gQ h2;subst h2;refine go ?_;exact ah (k,true) (hv:=rfl) (hp:=⟨⟨λ_=>jW _ (aP hx),λ_=>rfl⟩,λ_=>(ahf (aP hx)).trans (Fq hx hno)⟩)
  ·rw[dY]at h2;have h2:=mV h2;exact eC
 have hkl:k=iG.length:=vj
 subst hkl;rw[bJ]at hno;have Dz:=hno;clear hno hk h1;refine go ?_;refine aW (λk=>d.regions.length - k) (λk:Nat=>[(8,.int .i64 (k:Int))]) (λ_=>[]) (λ_=>[]) (λk=>k<=d.regions.length/\s∉(oC d).take k) 0 ⟨vj,vm⟩ (body:=?_);rintro k ⟨hk,hno⟩;refine go ?_;refine az rfl (λh1=>?_) (λh1=>?_)
 ·refine go ?_;refine bq eZ (xs:=d.regions) (next:=λ_ _ x (_:Value) hx=>?_);have kw:(oC d)[k]? =some x.name:=by unfold oC;rw[dK,hx];rfl
  refine go ?_;refine jh rfl (λh2=>?_) (λh2=>?_)
  ·rw[dY]at h2;have h2:=gQ h2;subst h2;refine go ?_;refine ah (8+k,true) (hv:=?_) (hp:=⟨⟨λ_=>oF _ (aP kw),λ_=>rfl⟩,λ_=>(ahe Dz).trans ?_⟩)
   ·show Value.tuple ⟨[.int .i64 (8+(k:Int)),.bool true]⟩=.tuple ⟨[.int .i64 ((8+k:Nat):Int),.bool true]⟩;rw[show((8+k:Nat):Int)=8+(k:Int)by omega]
   ·have:=Fq kw hno;unfold oC at this;rw[this];rfl
  ·rw[dY]at h2;have h2:=mV h2;refine go ?_;refine aM (k+1) vj ⟨vj,?_⟩;rw[bU kw,dW,not_or];exact⟨hno,by simp;exact λe=>h2 e.symm⟩
 have hkl:k=d.regions.length:=vj
 subst hkl;rw[show(oC d).take d.regions.length=oC d from tV (by simp[oC])]at hno;refine go ?_;exact ah (0,false) (hv:=rfl) (hp:=⟨⟨(λh=>by cases h),λh=>by
  rcases dW.1 h with h|h
  ·exact absurd h Dz
  ·exact absurd h hno⟩,(λh=>by cases h)⟩)
theorem JH{l:List ByteArray}(hs:d.symbols.length<=16)(hl:l.length<9223372036854775808):
 aU Tryz.prog (.func 291) [.agg ⟨gu d vh vs vr vc vu⟩,vl] [] [] [ai eP vs d.symbols,ai bD vl l] (λy:Bool=>.tuple ⟨[.int .i64 (cond y (fG (bN d) l:Int) 0),.bool y]⟩) (λ_=>[]) (λ_=>[]) (λy=>y=true↔∀s∈l,s∈bN d):=by
 have hsl:(bN d).length<=16:=by simp[bN];exact hs
 refine aH _ (aN 291) λB w0=>?_;refine aT (E:=bD) (v:=vl) (xs:=l) vm λa1 c1 e1=>?_;subst e1;refine go ?_;intro b1;refine go ?_;refine aW (λk=>l.length - k) (λk:Nat=>[(7,.int .i64 (k:Int)),(6,.int .i64 (fG (bN d) (l.take k):Int))]) (λ_=>[]) (λ_=>[]) (λk=>k<=l.length/\∀s∈l.take k,s∈bN d) 0 ⟨bQ _,vm⟩ (body:=?_);rintro k ⟨hk,hall⟩;refine go ?_;refine az rfl (λh1=>?_) (λh1=>?_)
 ·refine go ?_;refine bq bD (xs:=l) (next:=λ_ _ x (_:Unit) hx=>?_);refine go ?_;refine ax (ahd (d:=d) (s:=x) vj) (next:=λy hy=>?_);obtain⟨n,ok⟩:=y;obtain⟨hy1,hy2⟩:=hy;dsimp only at hy1 hy2;refine go ?_;cases ok with
  |false=>
   refine go ?_;exact ah false (hv:=rfl) (hp:=⟨(λh=>by cases h),λh=>by have:=hy1.2 (h x (aP hx));cases this⟩)
  |true=>
   have hm:=hy1.1 rfl;have hp:=w9 hm;have hn:=hy2 rfl;subst hn;have h2:1<<<dS x (bN d)<2^16:=by
    rw[JP,A7];exact oe
   have h3:=Nt hsl (l.take k) 0 hall vj;refine go ?_;refine(fq rfl rfl (Md (a:=1) (b:=dS x (bN d)) rfl rfl vj vj)).h ?_;refine(fq rfl rfl (Me (a:=fG (bN d) (l.take k)) (b:=1<<<dS x (bN d)) rfl rfl (Nat.lt_trans h3 vj) vj)).h ?_;exact fS
 have hkl:k=l.length:=vj
 subst hkl;rw[bJ]at hall⊢;refine go ?_;exact ah true (hv:=rfl) (hp:=⟨λ_=>hall,λ_=>rfl⟩)
theorem ahg(hrl:d.regions.length<=4096)(hcl:d.aJ.length<=4096):
 aU Tryz.prog (.func 160) [.agg ⟨gu d vh vs vr vc vu⟩] [] [] [ai eZ vr d.regions,ai bP vc d.aJ] vY (λ_=>[]) (λy=>[mQ (y.e=0) (ai bP y.v (d.aJ.map (lI (bX d))))]) (λy=>y.e=0↔(dI d).Nodup/\∀c∈d.aJ,c.on∈bX d):=by
 refine aH _ (aN 160) λB w0=>?_;refine aT (E:=bP) (v:=vc) (xs:=d.aJ) vm λa1 c1 e1=>?_;subst e1;refine go ?_;intro b1;refine bi (dR (b:=b1)) (h:=?_);refine go ?_;refine gH bD ?_;refine aW (λy:Nat×Value=>d.aJ.length - y.1) (λy=>[(5,.int .i64 (y.1:Int)),(4,y.2)]) (λy=>[ap bD y.2 ((dI d).take y.1)]) (λ_=>[]) (λy=>y.1<=d.aJ.length) (0,.slice none 0 0) (bQ _) (hk:=we) (body:=?_);rintro⟨k,v4⟩ hk;dsimp only at hk⊢;have hil:((dI d).take k).length=k:=by rw[ig];simp[dI];omega
 refine go ?_;refine az rfl (λh1=>?_) (λh1=>?_)
 ·refine go ?_;refine bq bP (xs:=d.aJ) (next:=λ_ _ x _ hx=>?_);have kw:(dI d)[k]? =some x.name:=by unfold dI;rw[dK,hx];rfl
  refine go ?_;intro Ox;refine go ?_;refine fw bD (xs:=(dI d).take k) x.name () vj (next:=λad=>?_);rw[<- bU kw];refine go ?_;exact aM (k+1,.slice ad (((dI d).take k).length+1) (((dI d).take k).length+1)) BY wA
 have hkl:k=d.aJ.length:=vj
 subst hkl;rw[show(dI d).take d.aJ.length=dI d from tV (by simp[dI])];refine bi (fQ (E:=bD) (v:=v4) (xs:=dI d)) (h:=?_);refine go ?_;refine ax (JG (vl:=v4) (xs:=dI d) (by simp[dI];omega)) (next:=λ_ _=>?_);refine go ?_;refine eO rfl (λh2=>?_) (λh2=>?_)
 ·refine go ?_;refine mg (c:=(161:Int)=0) (f:=ai bP (.slice none 0 0) (d.aJ.map (lI (bX d)))) vj ?_;exact qt
 refine go ?_;refine gH bP ?_;refine aW (λy:Nat×Value=>d.aJ.length - y.1) (λy=>[(7,.int .i64 (y.1:Int)),(6,y.2)]) (λy=>[ap bP y.2 ((d.aJ.map (lI (bX d))).take y.1)]) (λ_=>[]) (λy=>y.1<=d.aJ.length/\∀c∈d.aJ.take y.1,c.on∈bX d) (0,.slice none 0 0) ⟨bQ _,vm⟩ (hk:=we) (body:=?_);rintro⟨k,v6⟩ ⟨hk,hall⟩;dsimp only at hk hall⊢;have hil:((d.aJ.map (lI (bX d))).take k).length=k:=by rw[ig,cz];omega
 refine go ?_;refine az rfl (λh3=>?_) (λh3=>?_)
 ·refine go ?_;refine bq bP (xs:=d.aJ) (next:=λ_ _ x (_:Unit) hx=>?_);have hxm:(d.aJ.map (lI (bX d)))[k]? =some (lI (bX d) x):=by rw[dK,hx];rfl
  refine go ?_;intro b8;refine go ?_;refine ax (VX (d:=d) (s:=x.on) (vc:=.slice a1 d.aJ.length c1) (vu:=vu) hrl) (next:=λy hy=>?_);obtain⟨n,ok⟩:=y;obtain⟨hy1,hy2⟩:=hy;dsimp only at hy1 hy2;refine go ?_;cases ok with
  |false=>
   refine go ?_;refine mg (c:=(160:Int)=0) (f:=ai bP (.slice none 0 0) (d.aJ.map (lI (bX d)))) vj ?_;exact n9
  |true=>
   have hn:=hy2 rfl;subst hn;refine go ?_;intro b54;refine go ?_;refine fw bP (xs:=(d.aJ.map (lI (bX d))).take k) (lI (bX d) x) () vj (next:=λad=>?_);rw[<- bU hxm];refine go ?_;refine aM (k+1,.slice ad (((d.aJ.map (lI (bX d))).take k).length+1) (((d.aJ.map (lI (bX d))).take k).length+1)) BY ⟨by show k+1<=_;omega,?_⟩;show∀c∈d.aJ.take (k+1),c.on∈bX d;exact qu
 have hkl:k=d.aJ.length:=vj
 subst hkl;rw[bJ]at hall;rw[show(d.aJ.map (lI (bX d))).take d.aJ.length=d.aJ.map (lI (bX d))from tV vm];refine bi (fQ (E:=bP) (v:=v6) (xs:=d.aJ.map (lI (bX d)))) (h:=?_);refine go ?_;refine lu (c:=(0:Int)=0) (f:=ai bP v6 (d.aJ.map (lI (bX d)))) vm ?_;exact ah ⟨v6,0⟩ (hv:=rfl) (hp:=⟨λ_=>⟨h2,hall⟩,λ_=>rfl⟩)
abbrev RlP(d:bE)(r:bA)(y:bA×Bool):Prop:=(y.2=true↔Af (bN d) (bX d) (dI d) r)/\(y.2=true->y.1=mI (bN d) (bX d) (dI d) r)
theorem ahj{r:bA}{v1 v2:Value}(hs:d.symbols.length<=16)(hrl:d.regions.length<=4096)(hcl:d.aJ.length<=4096)(h1:r.names.length<9223372036854775808)(h2:r.others.length<9223372036854775808):
 aU Tryz.prog (.func 219) [.agg ⟨gu d vh vs vr vc vu⟩,.agg ⟨jI r v1 v2⟩] [] [] [ai eP vs d.symbols,ai eZ vr d.regions,ai bP vc d.aJ,ai bD v1 r.names,ai bD v2 r.others] (λy:bA×Bool=>.tuple ⟨[.agg ⟨jI y.1 v1 v2⟩,.bool y.2]⟩) (λ_=>[]) (λ_=>[]) (RlP d r):=by
 refine aH _ (aN 219) λB w0=>?_;refine go ?_;intro b2 b3 b4;refine bi (dR (b:=b2)) (h:=?_);refine go ?_;refine eO (p:=r.on=⟨⟨[]⟩⟩) zp (λh3=>?_) (λh3=>?_)
 ·refine go ?_;refine ax (VX (d:=d) (s:=r.on) hrl) (next:=λy hy=>?_);obtain⟨n,ok⟩:=y;obtain⟨hy1,hy2⟩:=hy;dsimp only at hy1 hy2;refine go ?_;cases ok with
  |false=>
   refine go ?_;exact ah ({r with family:=0},false) (hv:=rfl) (hp:=⟨⟨(λh=>by cases h),λh=>by rcases h.on with h|h;exact absurd h h3;have:=hy1.2 h;cases this⟩,(λh=>by cases h)⟩)
  |true=>
   have hon:r.on=⟨⟨[]⟩⟩\/r.on∈bX d:=.inr (hy1.1 rfl);have hn:=hy2 rfl;subst hn;have hfm:(if r.on=⟨⟨[]⟩⟩then(0:Int)else(dS r.on (bX d):Int))=(dS r.on (bX d):Int):=if_neg h3;refine go ?_;refine ax (JH (d:=d) (l:=r.names) (vl:=v1) hs h1) (next:=λz1 hz1=>?_);refine go ?_;refine ax (JH (d:=d) (l:=r.others) (vl:=v2) hs h2) (next:=λz2 hz2=>?_);refine go ?_;refine eO (p:=r.dm=⟨⟨[]⟩⟩) zp (λh4=>?_) (λh4=>?_)
   ·refine go ?_;refine ax (VW (d:=d) (s:=r.dm) vj) (next:=λy hy=>?_);obtain⟨n,ok⟩:=y;obtain⟨hy1,hy2⟩:=hy;dsimp only at hy1 hy2;refine go ?_;cases ok with
    |false=>
     refine go ?_;exact ah ({r with family:=(dS r.on (bX d):Int),set:=cond z1 (fG (bN d) r.names:Int) 0,other:=cond z2 (fG (bN d) r.others:Int) 0,aQ:= -1},false) (hv:=rfl) (hp:=⟨⟨(λh=>by cases h),λh=>by rcases h.dm with h|h;exact absurd h h4;have:=hy1.2 h;cases this⟩,(λh=>by cases h)⟩)
    |true=>
     have hby:r.dm=⟨⟨[]⟩⟩\/r.dm∈dI d:=.inr (hy1.1 rfl);have hn:=hy2 rfl;subst hn;have hcm:(if r.dm=⟨⟨[]⟩⟩then(-1:Int)else(dS r.dm (dI d):Int))=(dS r.dm (dI d):Int):=if_neg h4;refine go ?_;cases z1 with
     |false=>
      refine go ?_;exact ah ({r with family:=(dS r.on (bX d):Int),set:=0,other:=cond z2 (fG (bN d) r.others:Int) 0,aQ:=(dS r.dm (dI d):Int)},false) (hv:=rfl) (hp:=⟨⟨(λh=>by cases h),λh=>by have:=hz1.2 h.names;cases this⟩,(λh=>by cases h)⟩)
     |true=>
      cases z2 with
      |false=>
       refine go ?_;exact ah ({r with family:=(dS r.on (bX d):Int),set:=(fG (bN d) r.names:Int),other:=0,aQ:=(dS r.dm (dI d):Int)},false) (hv:=rfl) (hp:=⟨⟨(λh=>by cases h),λh=>by have:=hz2.2 h.others;cases this⟩,(λh=>by cases h)⟩)
      |true=>
       refine go ?_;refine ah ({r with family:=(dS r.on (bX d):Int),set:=(fG (bN d) r.names:Int),other:=(fG (bN d) r.others:Int),aQ:=(dS r.dm (dI d):Int)},true) (hv:=rfl) (hp:=⟨⟨λ_=>⟨hon,hz1.1 rfl,hz2.1 rfl,hby⟩,λ_=>rfl⟩,λ_=>?_⟩);unfold mI;rw[hfm,hcm]
   ·have hby:r.dm=⟨⟨[]⟩⟩\/r.dm∈dI d:=.inl h4;have hcm:(if r.dm=⟨⟨[]⟩⟩then(-1:Int)else(dS r.dm (dI d):Int))= -1:=if_pos h4;refine go ?_;cases z1 with
    |false=>
     refine go ?_;exact ah ({r with family:=(dS r.on (bX d):Int),set:=0,other:=cond z2 (fG (bN d) r.others:Int) 0,aQ:=(-1:Int)},false) (hv:=rfl) (hp:=⟨⟨(λh=>by cases h),λh=>by have:=hz1.2 h.names;cases this⟩,(λh=>by cases h)⟩)
    |true=>
     cases z2 with
     |false=>
      refine go ?_;exact ah ({r with family:=(dS r.on (bX d):Int),set:=(fG (bN d) r.names:Int),other:=0,aQ:=(-1:Int)},false) (hv:=rfl) (hp:=⟨⟨(λh=>by cases h),λh=>by have:=hz2.2 h.others;cases this⟩,(λh=>by cases h)⟩)
     |true=>
      refine go ?_;refine ah ({r with family:=(dS r.on (bX d):Int),set:=(fG (bN d) r.names:Int),other:=(fG (bN d) r.others:Int),aQ:=(-1:Int)},true) (hv:=rfl) (hp:=⟨⟨λ_=>⟨hon,hz1.1 rfl,hz2.1 rfl,hby⟩,λ_=>rfl⟩,λ_=>?_⟩);unfold mI;rw[hfm,hcm]
 ·have hon:r.on=⟨⟨[]⟩⟩\/r.on∈bX d:=.inl h3;have hfm:(if r.on=⟨⟨[]⟩⟩then(0:Int)else(dS r.on (bX d):Int))=0:=if_pos h3;refine go ?_;refine ax (JH (d:=d) (l:=r.names) (vl:=v1) hs h1) (next:=λz1 hz1=>?_);refine go ?_;refine ax (JH (d:=d) (l:=r.others) (vl:=v2) hs h2) (next:=λz2 hz2=>?_);refine go ?_;refine eO (p:=r.dm=⟨⟨[]⟩⟩) zp (λh4=>?_) (λh4=>?_)
  ·refine go ?_;refine ax (VW (d:=d) (s:=r.dm) vj) (next:=λy hy=>?_);obtain⟨n,ok⟩:=y;obtain⟨hy1,hy2⟩:=hy;dsimp only at hy1 hy2;refine go ?_;cases ok with
   |false=>
    refine go ?_;exact ah ({r with family:=(0:Int),set:=cond z1 (fG (bN d) r.names:Int) 0,other:=cond z2 (fG (bN d) r.others:Int) 0,aQ:= -1},false) (hv:=rfl) (hp:=⟨⟨(λh=>by cases h),λh=>by rcases h.dm with h|h;exact absurd h h4;have:=hy1.2 h;cases this⟩,(λh=>by cases h)⟩)
   |true=>
    have hby:r.dm=⟨⟨[]⟩⟩\/r.dm∈dI d:=.inr (hy1.1 rfl);have hn:=hy2 rfl;subst hn;have hcm:(if r.dm=⟨⟨[]⟩⟩then(-1:Int)else(dS r.dm (dI d):Int))=(dS r.dm (dI d):Int):=if_neg h4;refine go ?_;cases z1 with
    |false=>
     refine go ?_;exact ah ({r with family:=(0:Int),set:=0,other:=cond z2 (fG (bN d) r.others:Int) 0,aQ:=(dS r.dm (dI d):Int)},false) (hv:=rfl) (hp:=⟨⟨(λh=>by cases h),λh=>by have:=hz1.2 h.names;cases this⟩,(λh=>by cases h)⟩)
    |true=>
     cases z2 with
     |false=>
      refine go ?_;exact ah ({r with family:=(0:Int),set:=(fG (bN d) r.names:Int),other:=0,aQ:=(dS r.dm (dI d):Int)},false) (hv:=rfl) (hp:=⟨⟨(λh=>by cases h),λh=>by have:=hz2.2 h.others;cases this⟩,(λh=>by cases h)⟩)
     |true=>
      refine go ?_;refine ah ({r with family:=(0:Int),set:=(fG (bN d) r.names:Int),other:=(fG (bN d) r.others:Int),aQ:=(dS r.dm (dI d):Int)},true) (hv:=rfl) (hp:=⟨⟨λ_=>⟨hon,hz1.1 rfl,hz2.1 rfl,hby⟩,λ_=>rfl⟩,λ_=>?_⟩);unfold mI;rw[hfm,hcm]
  ·have hby:r.dm=⟨⟨[]⟩⟩\/r.dm∈dI d:=.inl h4;have hcm:(if r.dm=⟨⟨[]⟩⟩then(-1:Int)else(dS r.dm (dI d):Int))= -1:=if_pos h4;refine go ?_;cases z1 with
   |false=>
    refine go ?_;exact ah ({r with family:=(0:Int),set:=0,other:=cond z2 (fG (bN d) r.others:Int) 0,aQ:=(-1:Int)},false) (hv:=rfl) (hp:=⟨⟨(λh=>by cases h),λh=>by have:=hz1.2 h.names;cases this⟩,(λh=>by cases h)⟩)
   |true=>
    cases z2 with
    |false=>
     refine go ?_;exact ah ({r with family:=(0:Int),set:=(fG (bN d) r.names:Int),other:=0,aQ:=(-1:Int)},false) (hv:=rfl) (hp:=⟨⟨(λh=>by cases h),λh=>by have:=hz2.2 h.others;cases this⟩,(λh=>by cases h)⟩)
    |true=>
     refine go ?_;refine ah ({r with family:=(0:Int),set:=(fG (bN d) r.names:Int),other:=(fG (bN d) r.others:Int),aQ:=(-1:Int)},true) (hv:=rfl) (hp:=⟨⟨λ_=>⟨hon,hz1.1 rfl,hz2.1 rfl,hby⟩,λ_=>rfl⟩,λ_=>?_⟩);unfold mI;rw[hfm,hcm]
theorem ahk(hs:d.symbols.length<=16)(hD:mM d):
 aU Tryz.prog (.func 161) [.agg ⟨gu d vh vs vr vc vu⟩] [] [] [ai eP vs d.symbols,ai eZ vr d.regions,ai bP vc d.aJ,ai aY vu d.rules] vY (λ_=>[]) (λy=>[mQ (y.e=0) (ai aY y.v (d.rules.map (mI (bN d) (bX d) (dI d))))]) (λy=>y.e=0↔(ny d).Nodup/\∀r∈d.rules,Af (bN d) (bX d) (dI d) r):=by
 have hrl:=hD.regs;have hcl:=hD.jR;have vV:=hD.lQ;have hrn:=hD.vT;refine aH _ (aN 161) λB w0=>?_;refine aT (E:=aY) (v:=vu) (xs:=d.rules) vm λa1 c1 e1=>?_;subst e1;refine go ?_;intro b1;refine bi (dR (b:=b1)) (h:=?_);refine go ?_;refine gH bD ?_;refine aW (λy:Nat×Value=>d.rules.length - y.1) (λy=>[(5,.int .i64 (y.1:Int)),(4,y.2)]) (λy=>[ap bD y.2 ((ny d).take y.1)]) (λ_=>[]) (λy=>y.1<=d.rules.length) (0,.slice none 0 0) (bQ _) (hk:=we) (body:=?_);rintro⟨k,v4⟩ hk;dsimp only at hk⊢;have hil:((ny d).take k).length=k:=by rw[ig];simp[ny];omega
 refine go ?_;refine az rfl (λh1=>?_) (λh1=>?_)
 ·refine go ?_;refine bq aY (xs:=d.rules) (next:=λ_ _ x _ hx=>?_);have kw:(ny d)[k]? =some x.name:=by unfold ny;rw[dK,hx];rfl
  refine go ?_;intro Ox;refine go ?_;refine fw bD (xs:=(ny d).take k) x.name () vj (next:=λad=>?_);rw[<- bU kw];refine go ?_;exact aM (k+1,.slice ad (((ny d).take k).length+1) (((ny d).take k).length+1)) z6 wA
 have hkl:k=d.rules.length:=vj
 subst hkl;rw[show(ny d).take d.rules.length=ny d from tV (by simp[ny])];refine bi (fQ (E:=bD) (v:=v4) (xs:=ny d)) (h:=?_);refine go ?_;refine ax (JG (vl:=v4) (xs:=ny d) (by simp[ny];omega)) (next:=λ_ _=>?_);refine go ?_;refine eO rfl (λh2=>?_) (λh2=>?_)
 ·refine go ?_;refine mg (c:=(161:Int)=0) (f:=ai aY (.slice none 0 0) (d.rules.map (mI (bN d) (bX d) (dI d)))) vj ?_;exact qt
 refine go ?_;refine gH aY ?_;generalize hf:mI (bN d) (bX d) (dI d)=f;refine aW (λy:Nat×Value=>d.rules.length - y.1) (λy=>[(7,.int .i64 (y.1:Int)),(6,y.2)]) (λy=>[ap aY y.2 ((d.rules.map f).take y.1)]) (λ_=>[]) (λy=>y.1<=d.rules.length/\∀r∈d.rules.take y.1,Af (bN d) (bX d) (dI d) r) (0,.slice none 0 0) ⟨bQ _,vm⟩ (hk:=we) (body:=?_);rintro⟨k,v6⟩ ⟨hk,hall⟩;dsimp only at hk hall⊢;have hil:((d.rules.map f).take k).length=k:=by rw[ig,cz];omega
 refine go ?_;refine az rfl (λh3=>?_) (λh3=>?_)
 ·refine go ?_;refine bq aY (xs:=d.rules) (next:=λ_ _ x (vx:Value×Value) hx=>?_);have hxm:(d.rules.map f)[k]? =some (f x):=by rw[dK,hx];rfl
  have hxl:=hrn x (aP hx);refine go ?_;intro b8;refine ax (ahj (d:=d) (r:=x) (vu:=.slice a1 d.rules.length c1) (v1:=vx.1) (v2:=vx.2) hs hrl hcl hxl.1 hxl.2) (next:=λy hy=>?_);obtain⟨z,ok⟩:=y;obtain⟨hy1,hy2⟩:=hy;dsimp only at hy1 hy2;refine go ?_;cases ok with
  |false=>
   refine go ?_;refine mg (c:=(160:Int)=0) (f:=ai aY (.slice none 0 0) (d.rules.map f)) vj ?_;exact n9
  |true=>
   have hz:=hy2 rfl;rw[hf]at hz;have hzn:z.names=x.names/\z.others=x.others:=by rw[hz,<- hf];exact⟨rfl,rfl⟩
   refine go ?_;intro b54;refine go ?_;refine fK (ai bD vx.1 z.names) (λw hw=>by rw[hzn.1];exact hw (ai bD vx.1 x.names) vm) ?_;refine fK (ai bD vx.2 z.others) (λw hw=>by rw[hzn.2];exact hw (ai bD vx.2 x.others) vm) ?_;refine fw aY (xs:=(d.rules.map f).take k) z vx vj (next:=λad=>?_);rw[hz,<- bU hxm];refine go ?_;refine aM (k+1,.slice ad (((d.rules.map f).take k).length+1) (((d.rules.map f).take k).length+1)) z6 ⟨by show k+1<=_;omega,?_⟩;show∀c∈d.rules.take (k+1),Af (bN d) (bX d) (dI d) c;exact qu
 have hkl:k=d.rules.length:=vj
 subst hkl;rw[bJ]at hall;rw[show(d.rules.map f).take d.rules.length=d.rules.map f from tV vm];refine bi (fQ (E:=aY) (v:=v6) (xs:=d.rules.map f)) (h:=?_);refine go ?_;refine lu (c:=(0:Int)=0) (f:=ai aY v6 (d.rules.map f)) vm ?_;exact ah ⟨v6,0⟩ (hv:=rfl) (hp:=⟨λ_=>⟨h2,hall⟩,λ_=>rfl⟩)
theorem VY(hD:mM d):
 aU Tryz.prog (.func 118) [.agg ⟨gu d vh vs vr vc vu⟩] [] [] (lZ d vh vs vr vc vu) (rG d vh vs vr) (λ_=>[]) (ou d) (Ap d):=by
 have hsl:=hD.dJ;have hrl:=hD.regs;have hcl:=hD.jR;have vV:=hD.lQ;have hgl:iG.length=8:=rfl;refine aH _ (aN 118) λB w0=>?_;refine aT (E:=eP) (v:=vs) (xs:=d.symbols) vm λa1 c1 e1=>?_;subst e1;refine aT (E:=eZ) (v:=vr) (xs:=d.regions) vm λa2 c2 e2=>?_;subst e2;refine go ?_;intro b1 b2;refine go ?_;refine az rfl (λhs=>?_) (λhs=>?_)
 ·refine go ?_;exact ah ⟨false,2,.nilFunc,.nilFunc⟩ (hv:=rfl) (hp:=⟨(λh=>by cases h),λ_=>⟨by show(2:Int)≠0;omega,λh=>by have:=h.dJ;omega⟩⟩)
 refine go ?_;refine gH bD ?_;refine aW (λy:Nat×Value=>d.symbols.length - y.1) (λy=>[(5,.int .i64 (y.1:Int)),(4,y.2)]) (λy=>[ap bD y.2 ((bN d).take y.1)]) (λ_=>[]) (λy=>y.1<=d.symbols.length) (0,.slice none 0 0) (bQ _) (hk:=we) (body:=?_);rintro⟨k,v4⟩ hk;dsimp only at hk⊢;have hil:((bN d).take k).length=k:=by rw[ig];simp[bN];omega
 refine go ?_;refine az rfl (λh1=>?_) (λh1=>?_)
 ·refine go ?_;refine bq eP (xs:=d.symbols) (next:=λ_ _ x _ hx=>?_);have kw:(bN d)[k]? =some x.name:=by unfold bN;rw[dK,hx];rfl
  refine go ?_;intro Ox;refine go ?_;refine fw bD (xs:=(bN d).take k) x.name () vj (next:=λad=>?_);rw[<- bU kw];refine go ?_;exact aM (k+1,.slice ad (((bN d).take k).length+1) (((bN d).take k).length+1)) (by show d.symbols.length - (k+1)<d.symbols.length - k;omega) wA
 have hkl:k=d.symbols.length:=vj
 subst hkl;rw[show(bN d).take d.symbols.length=bN d from tV (by simp[bN])];refine bi (fQ (E:=bD) (v:=v4) (xs:=bN d)) (h:=?_);refine go ?_;refine ax (JG (vl:=v4) (xs:=bN d) (by simp[bN];omega)) (next:=λ_ _=>?_);refine go ?_;refine eO rfl (λk1=>?_) (λk1=>?_)
 ·refine go ?_;exact ah ⟨false,161,.nilFunc,.nilFunc⟩ (hv:=rfl) (hp:=⟨(λh=>by cases h),λ_=>⟨by show(161:Int)≠0;omega,λh=>k1 h.Td⟩⟩)
 refine go ?_;refine ax VV (next:=λag _=>?_);refine go ?_;refine aW (λy:Nat×Value=>d.regions.length - y.1) (λy=>[(7,.int .i64 (y.1:Int)),(6,y.2)]) (λy=>[ap bD y.2 (iG++(oC d).take y.1)]) (λ_=>[]) (λy=>y.1<=d.regions.length) (0,.slice ag iG.length iG.length) (bQ _) (hk:=by rw[List.take_zero,iI];repeat (first|exact aI.nil|(apply aI.cons;(focus (repeat (first|exact ay.here|apply ay.there)))))) (body:=?_);rintro⟨k,v6⟩ hk;dsimp only at hk⊢;have hil:(iG++(oC d).take k).length=8+k:=by rw[iE,ig,hgl];simp[oC];omega
 refine go ?_;refine az rfl (λh1=>?_) (λh1=>?_)
 ·refine go ?_;refine bq eZ (xs:=d.regions) (next:=λ_ _ x (_:Value) hx=>?_);have kw:(oC d)[k]? =some x.name:=by unfold oC;rw[dK,hx];rfl
  refine go ?_;intro Ox;refine go ?_;refine fw bD (xs:=iG++(oC d).take k) x.name () vj (next:=λad=>?_);rw[fU,<- bU kw];refine go ?_;exact aM (k+1,.slice ad ((iG++(oC d).take k).length+1) ((iG++(oC d).take k).length+1)) B9 wA
 have hkl:k=d.regions.length:=vj
 subst hkl;rw[show iG++(oC d).take d.regions.length=bX d from by rw[tV (by simp[oC])];rfl];refine bi (fQ (E:=bD) (v:=v6) (xs:=bX d)) (h:=?_);refine go ?_;refine ax (JG (vl:=v6) (xs:=bX d) (by simp[bX];omega)) (next:=λ_ _=>?_);refine go ?_;refine eO rfl (λk2=>?_) (λk2=>?_)
 ·refine go ?_;exact ah ⟨false,161,.nilFunc,.nilFunc⟩ (hv:=rfl) (hp:=⟨(λh=>by cases h),λ_=>⟨by show(161:Int)≠0;omega,λh=>k2 h.Te⟩⟩)
 refine go ?_;refine ax (ahg (d:=d) (vh:=vh) (vs:=.slice a1 d.symbols.length c1) (vr:=.slice a2 d.regions.length c2) (vc:=vc) (vu:=vu) hrl hcl) (next:=λy hy=>?_);obtain⟨wc,e⟩:=y;dsimp only at hy⊢;refine go ?_;refine az rfl (λk3=>?_) (λk3=>?_)
 ·refine go ?_;exact ah ⟨false,e,.nilFunc,.nilFunc⟩ (hv:=rfl) (hp:=⟨(λh=>by cases h),λ_=>⟨k3,λh=>k3 (hy.2 ⟨h.Tf,h.ML⟩)⟩⟩)
 have he:e=0:=gT.1 k3;subst he;obtain⟨p1,p2⟩:=hy.1 rfl;clear hy k3;refine fK (ai bP wc (Kd.bF d).aJ) (λw hw=>hw (mQ ((0:Int)=0) (ai bP wc (d.aJ.map (lI (bX d))))) vm rfl) ?_;refine go ?_;refine ax (ahk (d:=d) (vh:=vh) (vs:=.slice a1 d.symbols.length c1) (vr:=.slice a2 d.regions.length c2) (vc:=vc) (vu:=vu) vj hD) (next:=λy hy=>?_);obtain⟨wu,e⟩:=y;dsimp only at hy⊢;refine go ?_;refine az rfl (λk3=>?_) (λk3=>?_)
 ·refine go ?_;exact ah ⟨false,e,.nilFunc,.nilFunc⟩ (hv:=rfl) (hp:=⟨(λh=>by cases h),λ_=>⟨k3,λh=>k3 (hy.2 ⟨h.Tg,h.nA⟩)⟩⟩)
 have he:e=0:=gT.1 k3;subst he;obtain⟨p3,p4⟩:=hy.1 rfl;clear hy k3;refine fK (ai aY wu (Kd.bF d).rules) (λw hw=>hw (mQ ((0:Int)=0) (ai aY wu (d.rules.map (mI (bN d) (bX d) (dI d))))) vm rfl) ?_;refine aT (E:=bP) (v:=wc) (xs:=(Kd.bF d).aJ) vm λa3 c3 e3=>?_;subst e3;refine aT (E:=aY) (v:=wu) (xs:=(Kd.bF d).rules) vm λa4 c4 e4=>?_;subst e4;refine go ?_;refine ah ⟨true,0,.slice a3 (Kd.bF d).aJ.length c3,.slice a4 (Kd.bF d).rules.length c4⟩ (hv:=rfl) (hp:=⟨λ_=>⟨rfl,⟨vj,k1,k2,p1,p2,p3,p4⟩⟩,(λh=>by cases h)⟩) (hF:=?_);show Sub [ai bP _ (Kd.bF d).aJ,ai aY _ (Kd.bF d).rules] _;exact .cons vm (.cons vm .nil)
