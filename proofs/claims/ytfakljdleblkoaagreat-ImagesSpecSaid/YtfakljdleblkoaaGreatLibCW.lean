/-
  Part LibCW.
-/
import Derived.Test.YtfakljdleblkoaaGreatPlainBW
import Derived.Laws.Strings
import Derived.Test.YtfakljdleblkoaaGreatLibAW
set_option linter.all false
set_option maxRecDepth 10000
set_option maxHeartbeats 2000000
namespace Go.Proofs.YtfakljdleblkoaaGreat
open Go.Ideal Kd
noncomputable def Us:gU:=⟨2,[(.tmp 0)],(.seq (kO [kS 0 (.mW (.const vS))]) (.seq (kO [⟨⟨(some 1),none,(.wB 9 8 [vE,vE,vE,vE,vE,vE,vE,vE] [⟨0,⟨1,(.const (.string ⟨⟨[99,101,108,108,115]⟩⟩))⟩⟩,⟨1,⟨1,(.const (.string ⟨⟨[114,111,119,115]⟩⟩))⟩⟩,⟨2,⟨1,(.const (.string ⟨⟨[99,111,108,117,109,110,115]⟩⟩))⟩⟩,⟨3,⟨1,(.const (.string ⟨⟨[100,105,97,103,111,110,97,108,115]⟩⟩))⟩⟩,⟨4,⟨1,(.const (.string ⟨⟨[97,114,111,117,110,100]⟩⟩))⟩⟩,⟨5,⟨1,(.const (.string ⟨⟨[110,101,97,114]⟩⟩))⟩⟩,⟨6,⟨1,(.const (.string ⟨⟨[112,97,105,114,115]⟩⟩))⟩⟩,⟨7,⟨1,(.const (.string ⟨⟨[97,108,108]⟩⟩))⟩⟩])⟩,[]⟩,kS 0 (.mW 1)]) .ret))⟩
theorem aem:kU Tryz.prog 237=some Us:=vA
abbrev iU:ByteArray->Value:=λs=>.string s
theorem uI:rC Tryz.prog 9 iU:=ab3 vA
abbrev tu(e:Int):List PanicEntry:=[{v:=.iface 40 (.int .i64 e),recovered:=false}]
theorem Ut{x:lY}:dL Tryz.prog 233 [.agg ⟨[.string x.name,.int .i64 x.value]⟩] [] (.string x.name):=by
 refine aH _ (aN 233) λB w0=>?_;refine go ?_;intro b;refine go ?_;exact ah () (hv:=rfl) (hp:=trivial)
theorem Uu{x:mH}{v:Value}:dL Tryz.prog 235 [.agg ⟨[.string x.name,v]⟩] [] (.string x.name):=by
 refine aH _ (aN 235) λB w0=>?_;refine go ?_;intro b;refine go ?_;exact ah () (hv:=rfl) (hp:=trivial)
theorem Uv{x:iJ}:dL Tryz.prog 240 [.agg ⟨[.string x.name,.string x.on,.int .i64 x.family,.int .i64 x.type,.int .i64 x.lo,.int .i64 x.hi]⟩] [] (.string x.name):=by
 refine aH _ (aN 240) λB w0=>?_;refine go ?_;intro b;refine go ?_;exact ah () (hv:=rfl) (hp:=trivial)
theorem Uw{x:bA}{v1 v2:Value}:dL Tryz.prog 244 [.agg ⟨jI x v1 v2⟩] [] (.string x.name):=by
 refine aH _ (aN 244) λB w0=>?_;refine go ?_;intro b;refine go ?_;exact ah () (hv:=rfl) (hp:=trivial)
theorem Ux{s:ByteArray}:dL Tryz.prog 238 [.string s] [] (.string s):=by
 refine aH _ (aN 238) λB w0=>?_;refine go ?_;exact ah () (hv:=rfl) (hp:=trivial)
theorem ER{P:Program}{B:List Nat}{w0:Wd}{kl kl':List OA}{F:List aK}{K:KO}{ds:List Tmp}{rest:List bT}{n:Nat}{l:List (Nat×Value)}{D:List Deferred}{pm:Option FrameMode}{ro:Option Nat}{d:Nat}{g:Option (Tmp×Bool)}
 {α:Type} [DecidableEq α] {aX:α->Value} {kt:TypeId} {zero:Value} {m k:Operand} {b:Nat} {aj:List (α×Value)} (hk:rC P kt aX) (a:α)
 (hit:∀v,dG a aj=some v->a∈aj.map (·.1)->R (λh=>aG P ds rest (act n ((d,.tuple ⟨[v,.bool true]⟩)::l) D pm ro) h K) B w0 kl F)
 (miss:a∉aj.map (·.1)->R (λh=>aG P ds rest (act n ((d,.tuple ⟨[zero,.bool false]⟩)::l) D pm ro) h K) B w0 kl F)
 (hm:ev l m=.map (some b):=by rfl) (ha:ev l k=aX a:=by conv=>lhs;whnf) (hs:ay (gI aX b aj) kl kl':=by exact iw) (hn:Nat.blt d n=true:=by rfl) (hg:bZ l g=true:=by rfl):
 R (λh=>aG P ds (⟨⟨some d,g,.lookup kt zero m k true⟩,[]⟩::rest) (act n l D pm ro) h K) B w0 kl F:=by
 refine Es (ok:=true) hk a ?_ hm ha hs hn hg;by_cases h:a∈aj.map (·.1)
 ·exact n5
 ·exact po
variable{aj:List (ByteArray×Value)}{start:Nat}
theorem pQ{α:Type}{xs:List α}{nm:α->ByteArray}{k:Nat}{x:α}(hx:xs[k]? =some x):
 (aj++fu ((xs.take k).map nm) start).map (·.1)=aj.map (·.1)++(xs.take k).map nm/\fu ((xs.take (k+1)).map nm) start=fu ((xs.take k).map nm) start++[(nm x,.int .i64 ((start:Int)+(k:Int)))]:=by
 have hk:=(bC.1 hx).1;refine⟨by rw[fD,sW],?_⟩;rw[nE,hx,fD,MK];congr 1;rw[cz,ig,ahv vj];simp[fu]
variable{b:Nat}{vs:Value}
theorem aen{xs:List ByteArray}(hl:xs.length<=4096)(hs:start<=4096)(hnd:(aj.map (·.1)).Nodup):
 qx Tryz.prog (.func 236) [vs,.int .i64 (start:Int),.func (.func 238) #[] #[],.map (some b)] [] [gI iU b aj] [ai bD vs xs] (λy:Bool×List ByteArray=>if y.1=true then .ok (.map (some b))else .fJ (tu 161))
  (λy=>[gI iU b (aj++fu y.2 start)]) (λ_=>[]) (λy=>(y.1=true->y.2=xs/\(aj.map (·.1)++xs).Nodup)/\(y.1=false->¬(aj.map (·.1)++xs).Nodup)):=by
 let nm:ByteArray->ByteArray:=λs=>s
 have hmap:∀l:List ByteArray,l.map nm=l:=λl=>List.map_id' l;suffices h:qx Tryz.prog (.func 236) [vs,.int .i64 (start:Int),.func (.func 238) #[] #[],.map (some b)] [] [gI iU b aj] [ai bD vs xs] (λy:Bool×List ByteArray=>if y.1=true then .ok (.map (some b))else .fJ (tu 161))
  (λy=>[gI iU b (aj++fu y.2 start)]) (λ_=>[]) (λy=>(y.1=true->y.2=(xs.map nm)/\(aj.map (·.1)++xs.map nm).Nodup)/\(y.1=false->¬(aj.map (·.1)++xs.map nm).Nodup))by
  rw[hmap]at h;exact h
 refine yG _ (aN 236) λB w0=>?_;refine go ?_;rw[show gI iU b aj=gI iU b (aj++fu ((xs.take 0).map nm) start)by simp[fu]];refine aW (λk=>xs.length - k) (λk:Nat=>[(15,.int .i64 (k:Int))]) (λk=>[gI iU b (aj++fu ((xs.take k).map nm) start)]) (λ_=>[]) (λk=>k<=xs.length/\(aj.map (·.1)++(xs.take k).map nm).Nodup) 0 ⟨bQ _,AG⟩ (body:=?_);rintro k ⟨hk,hall⟩;refine go ?_;refine az rfl (λh1=>?_) (λh1=>?_)
 ·refine go ?_;refine bq bD (next:=λ_ _ x (y:Unit) hx=>?_);refine go ?_;refine ax (Ux (s:=x)) (next:=λ_ _=>?_);refine go ?_;refine ER uI (nm x) (λv hv hm=>?_) (λhm=>?_)
  ·exact bj
  refine go ?_;refine ax (Ux (s:=x)) (next:=λ_ _=>?_);exact cm
 have hkl:k=xs.length:=vj
 subst hkl;rw[bJ]at hall;rw[bJ];refine go ?_;exact z8 (true,xs.map nm) (hv:=rfl) (hp:=⟨λ_=>⟨rfl,hall⟩,λh=>by cases h⟩)
theorem aeo{xs:List lY}(hl:xs.length<=4096)(hs:start<=4096)(hnd:(aj.map (·.1)).Nodup):
 qx Tryz.prog (.func 232) [vs,.int .i64 (start:Int),.func (.func 233) #[] #[],.map (some b)] [] [gI iU b aj] [ai eP vs xs] (λy:Bool×List ByteArray=>if y.1=true then .ok (.map (some b))else .fJ (tu 161))
  (λy=>[gI iU b (aj++fu y.2 start)]) (λ_=>[]) (λy=>(y.1=true->y.2=(xs.map lY.name)/\(aj.map (·.1)++xs.map lY.name).Nodup)/\(y.1=false->¬(aj.map (·.1)++xs.map lY.name).Nodup)):=by
 let nm:lY->ByteArray:=lY.name
 refine yG _ (aN 232) λB w0=>?_;refine go ?_;rw[show gI iU b aj=gI iU b (aj++fu ((xs.take 0).map nm) start)by simp[fu]];refine aW (λk=>xs.length - k) (λk:Nat=>[(15,.int .i64 (k:Int))]) (λk=>[gI iU b (aj++fu ((xs.take k).map nm) start)]) (λ_=>[]) (λk=>k<=xs.length/\(aj.map (·.1)++(xs.take k).map nm).Nodup) 0 ⟨bQ _,AG⟩ (body:=?_);rintro k ⟨hk,hall⟩;refine go ?_;refine az rfl (λh1=>?_) (λh1=>?_)
 ·refine go ?_;refine bq eP (next:=λ_ _ x y hx=>?_);refine go ?_;intro b10;refine go ?_;refine ax (Ut (x:=x)) (next:=λ_ _=>?_);refine go ?_;refine ER uI (nm x) (λv hv hm=>?_) (λhm=>?_)
  ·exact bj
  refine go ?_;refine ax (Ut (x:=x)) (next:=λ_ _=>?_);exact cm
 have hkl:k=xs.length:=vj
 subst hkl;rw[bJ]at hall;rw[bJ];refine go ?_;exact z8 (true,xs.map nm) (hv:=rfl) (hp:=⟨λ_=>⟨rfl,hall⟩,λh=>by cases h⟩)
theorem aep{xs:List mH}(hl:xs.length<=4096)(hs:start<=4096)(hnd:(aj.map (·.1)).Nodup):
 qx Tryz.prog (.func 234) [vs,.int .i64 (start:Int),.func (.func 235) #[] #[],.map (some b)] [] [gI iU b aj] [ai eZ vs xs] (λy:Bool×List ByteArray=>if y.1=true then .ok (.map (some b))else .fJ (tu 161))
  (λy=>[gI iU b (aj++fu y.2 start)]) (λ_=>[]) (λy=>(y.1=true->y.2=(xs.map mH.name)/\(aj.map (·.1)++xs.map mH.name).Nodup)/\(y.1=false->¬(aj.map (·.1)++xs.map mH.name).Nodup)):=by
 let nm:mH->ByteArray:=mH.name
 refine yG _ (aN 234) λB w0=>?_;refine go ?_;rw[show gI iU b aj=gI iU b (aj++fu ((xs.take 0).map nm) start)by simp[fu]];refine aW (λk=>xs.length - k) (λk:Nat=>[(15,.int .i64 (k:Int))]) (λk=>[gI iU b (aj++fu ((xs.take k).map nm) start)]) (λ_=>[]) (λk=>k<=xs.length/\(aj.map (·.1)++(xs.take k).map nm).Nodup) 0 ⟨bQ _,AG⟩ (body:=?_);rintro k ⟨hk,hall⟩;refine go ?_;refine az rfl (λh1=>?_) (λh1=>?_)
 ·refine go ?_;refine bq eZ (next:=λ_ _ x y hx=>?_);refine go ?_;intro b10;refine go ?_;refine ax (Uu (x:=x) (v:=y)) (next:=λ_ _=>?_);refine go ?_;refine ER uI (nm x) (λv hv hm=>?_) (λhm=>?_)
  ·exact bj
  refine go ?_;refine ax (Uu (x:=x) (v:=y)) (next:=λ_ _=>?_);exact cm
 have hkl:k=xs.length:=vj
 subst hkl;rw[bJ]at hall;rw[bJ];refine go ?_;exact z8 (true,xs.map nm) (hv:=rfl) (hp:=⟨λ_=>⟨rfl,hall⟩,λh=>by cases h⟩)
theorem aeq{xs:List iJ}(hl:xs.length<=4096)(hs:start<=4096)(hnd:(aj.map (·.1)).Nodup):
 qx Tryz.prog (.func 239) [vs,.int .i64 (start:Int),.func (.func 240) #[] #[],.map (some b)] [] [gI iU b aj] [ai bP vs xs] (λy:Bool×List ByteArray=>if y.1=true then .ok (.map (some b))else .fJ (tu 161))
  (λy=>[gI iU b (aj++fu y.2 start)]) (λ_=>[]) (λy=>(y.1=true->y.2=(xs.map iJ.name)/\(aj.map (·.1)++xs.map iJ.name).Nodup)/\(y.1=false->¬(aj.map (·.1)++xs.map iJ.name).Nodup)):=by
 let nm:iJ->ByteArray:=iJ.name
 refine yG _ (aN 239) λB w0=>?_;refine go ?_;rw[show gI iU b aj=gI iU b (aj++fu ((xs.take 0).map nm) start)by simp[fu]];refine aW (λk=>xs.length - k) (λk:Nat=>[(15,.int .i64 (k:Int))]) (λk=>[gI iU b (aj++fu ((xs.take k).map nm) start)]) (λ_=>[]) (λk=>k<=xs.length/\(aj.map (·.1)++(xs.take k).map nm).Nodup) 0 ⟨bQ _,AG⟩ (body:=?_);rintro k ⟨hk,hall⟩;refine go ?_;refine az rfl (λh1=>?_) (λh1=>?_)
 ·refine go ?_;refine bq bP (next:=λ_ _ x y hx=>?_);refine go ?_;intro b10;refine go ?_;refine ax (Uv (x:=x)) (next:=λ_ _=>?_);refine go ?_;refine ER uI (nm x) (λv hv hm=>?_) (λhm=>?_)
  ·exact bj
  refine go ?_;refine ax (Uv (x:=x)) (next:=λ_ _=>?_);exact cm
 have hkl:k=xs.length:=vj
 subst hkl;rw[bJ]at hall;rw[bJ];refine go ?_;exact z8 (true,xs.map nm) (hv:=rfl) (hp:=⟨λ_=>⟨rfl,hall⟩,λh=>by cases h⟩)
theorem aer{xs:List bA}(hl:xs.length<=4096)(hs:start<=4096)(hnd:(aj.map (·.1)).Nodup):
 qx Tryz.prog (.func 243) [vs,.int .i64 (start:Int),.func (.func 244) #[] #[],.map (some b)] [] [gI iU b aj] [ai aY vs xs] (λy:Bool×List ByteArray=>if y.1=true then .ok (.map (some b))else .fJ (tu 161))
  (λy=>[gI iU b (aj++fu y.2 start)]) (λ_=>[]) (λy=>(y.1=true->y.2=(xs.map bA.name)/\(aj.map (·.1)++xs.map bA.name).Nodup)/\(y.1=false->¬(aj.map (·.1)++xs.map bA.name).Nodup)):=by
 let nm:bA->ByteArray:=bA.name
 refine yG _ (aN 243) λB w0=>?_;refine go ?_;rw[show gI iU b aj=gI iU b (aj++fu ((xs.take 0).map nm) start)by simp[fu]];refine aW (λk=>xs.length - k) (λk:Nat=>[(15,.int .i64 (k:Int))]) (λk=>[gI iU b (aj++fu ((xs.take k).map nm) start)]) (λ_=>[]) (λk=>k<=xs.length/\(aj.map (·.1)++(xs.take k).map nm).Nodup) 0 ⟨bQ _,AG⟩ (body:=?_);rintro k ⟨hk,hall⟩;refine go ?_;refine az rfl (λh1=>?_) (λh1=>?_)
 ·refine go ?_;refine bq aY (next:=λ_ _ x y hx=>?_);refine go ?_;intro b10;refine go ?_;refine ax (Uw (x:=x) (v1:=y.1) (v2:=y.2)) (next:=λ_ _=>?_);refine go ?_;refine ER uI (nm x) (λv hv hm=>?_) (λhm=>?_)
  ·exact bj
  refine go ?_;refine ax (Uw (x:=x) (v1:=y.1) (v2:=y.2)) (next:=λ_ _=>?_);exact cm
 have hkl:k=xs.length:=vj
 subst hkl;rw[bJ]at hall;rw[bJ];refine go ?_;exact z8 (true,xs.map nm) (hv:=rfl) (hp:=⟨λ_=>⟨rfl,hall⟩,λh=>by cases h⟩)
end Go.Proofs.YtfakljdleblkoaaGreat
namespace Go.Proofs.YtfakljdleblkoaaGreat
open Go.Ideal Kd
noncomputable def Nq:gU:=⟨9,[],(.seq (kO [⟨⟨(some 3),none,.recover⟩,[]⟩,kS 2 (.mW 3)]) (.seq (kO [kM 4 2,kS 5 (.bin .neq 20 4 (.const .nilIface))]) (.cond 5 (kO [⟨⟨(some 6),none,(.build [vE,vI,vI,vI,vI,vS,vS,vS,vS,vS] [])⟩,[]⟩,kM 7 2,kS 8 (.FT 40 vI false 7),kN (.store 10 0 6),kN (.store 1 1 8)]) .skip)))⟩
theorem Uy:kU Tryz.prog 231=some Nq:=vA
section
variable {P:Program} {B:List Nat} {w0:Wd} {kl kl':List OA} {F:List aK} {K:KO} {ds:List Tmp} {rest:List bT} {n:Nat} {l:List (Nat×Value)} {D:List Deferred} {pm:Option FrameMode} {ro:Option Nat} {d:Nat} {g:Option (Tmp×Bool)}
variable{α:Type}
theorem Uz[DecidableEq α]{aX:α->Value}{kt:TypeId}{zero:Value}{m k:Operand}{b:Nat}{aj:List (α×Value)}(hk:rC P kt aX)(a:α)
 (hit:∀v,dG a aj=some v->a∈aj.map (·.1)->R (λh=>aG P ds rest (act n ((d,.tuple ⟨[v,.bool true]⟩)::l) D pm ro) h K) B w0 kl F)
 (miss:a∉aj.map (·.1)->R (λh=>aG P ds rest (act n ((d,.tuple ⟨[zero,.bool false]⟩)::l) D pm ro) h K) B w0 kl F)
 (hm:ev l m=.map (some b):=by rfl) (ha:ev l k=aX a:=by conv=>lhs;whnf) (hf:wX aX b aj∈F:=by exact vF) (hn:Nat.blt d n=true:=by rfl) (hg:bZ l g=true:=by rfl):
 R (λh=>aG P ds (⟨⟨some d,g,.lookup kt zero m k true⟩,[]⟩::rest) (act n l D pm ro) h K) B w0 kl F:=by
 refine R6 (ok:=true) hk a ?_ hm ha hf hn hg;by_cases h:a∈aj.map (·.1)
 ·exact n5
 ·exact po
theorem Nr(E:Enc α){v:Value}{aF:List (α×E.Y)}{Q:IH->Prop}(h0:aF=[]->∀c,v=.slice none 0 c->R Q B w0 kl F)(h1:aF=[]->∀i o f c,v=.slice (some ⟨i,o,some f⟩) 0 c->R Q B w0 kl F)
 (h2:0<aF.length->∀i o f c,v=.slice (some ⟨i,o,some f⟩) aF.length c->R Q B w0 kl F) (hf:rD E v aF∈F:=by exact vF):R Q B w0 kl F:=λw s=>by
 rcases s.facts _ hf with⟨e,a,c,hv,hg⟩|⟨i,o,f,c,cells,⟨hv,_⟩,_⟩
 ·exact ph
 ·exact ri
theorem Ns(E:Enc α){Q:IH->Prop}(h:R Q B w0 (ar E (.slice none 0 0) []::kl) F):R Q B w0 kl F:=λw s=>by
 obtain⟨S,h1,h2,h3⟩:=s.own;exact h w ⟨s.agree,s.le,s.gF,⟨S,⟨[],S,.inl ⟨rfl,⟨none,rfl,trivial⟩,rfl⟩,h1,rfl⟩,h2,h3⟩,s.facts⟩
end
theorem aes:aU Tryz.prog (.func 237) [] [] [] [] (λv:Value=>v) (λ_=>[]) (λv=>[ai bD v iG]) (λ_=>True):=by
 refine aH Us aem λB w0=>?_;refine go ?_;intro b;refine go ?_;refine sQ (b:=b) (m:=8) (f:=0) bD (aF:=iG.map λs=>(s,())) rfl (.inl rfl) ?_ (hk:=ay.here);refine Ih (E:=bD) ?_ (λw hw p hp f hf=>by cases hf);exact ah (.slice (some ⟨b,0,some 0⟩) 8 8) (hv:=rfl) (hp:=trivial) (hF:=.cons (dA _ (cZ ..)) .nil)
variable{s:ByteArray}
theorem Jd{b:Nat}{aj:List (ByteArray×Value)}:
 qx Tryz.prog (.func 242) [.map (some b),.string s] [] [] [wX iU b aj] (λy:Option Value=>match y with|some v=>.ok v|none=>.fJ (tu 160)) (λ_=>[]) (λ_=>[]) (λy=>y=dG s aj):=by
 refine yG _ (aN 242) λB w0=>?_;refine go ?_;refine Uz uI s (λv hv hm=>?_) (λhm=>?_)
 ·refine go ?_;exact z8 (some v) (hv:=rfl) (hp:=hv.symm)
 ·refine go ?_;refine BV ?_;refine go ?_;exact Aa none (hv:=rfl) (hp:=(rE hm).symm)
variable{dJ l:List ByteArray}
theorem UA{k:Nat}(h:l[k]? =some s):fG dJ (l.take (k+1))=fG dJ (l.take k)|||1<<<dS s dJ:=by
 unfold fG;rw[nE,h,FK];rfl
theorem Nt{dJ:List ByteArray}(hs:dJ.length<=16):∀(l:List ByteArray) (m:Nat),(∀s∈l,s∈dJ)->m<65536->l.foldl (λm s=>m|||1<<<dS s dJ) m<65536
 |[],m,_,hm=>hm
 |s::l,m,h,hm=>by
  rw[tN];refine Nt hs l _ (λx hx=>h x (dA _ hx)) ?_;have h1:=w9 (h s (cZ ..));have h2:1<<<dS s dJ<2^16:=by
   rw[JP,A7];exact oe
  exact JQ (n:=16) hm h2
theorem UB{b4 bs:Nat}{vl:Value}(hs:dJ.length<=16)(hl:l.length<9223372036854775808):
 qx Tryz.prog (.func 246) [vl] [ptr' b4] [] [fA b4 0 [.map (some bs)],wX iU bs (fu dJ 0),ai bD vl l] (λy:Bool=>if y=true then .ok (.int .i64 (fG dJ l:Int))else .fJ (tu 160)) (λ_=>[]) (λ_=>[])
  (λy=>(y=true->∀s∈l,s∈dJ)/\(y=false->¬∀s∈l,s∈dJ)):=by
 refine yG _ (aN 246) λB w0=>?_;refine go ?_;refine aW (λk=>l.length - k) (λk:Nat=>[(8,.int .i64 (k:Int)),(3,.int .i64 (fG dJ (l.take k):Int))]) (λ_=>[]) (λ_=>[]) (λk=>k<=l.length/\∀s∈l.take k,s∈dJ) 0 ⟨bQ _,vm⟩ (body:=?_);rintro k ⟨hk,hall⟩;refine go ?_;refine az rfl (λh1=>?_) (λh1=>?_)
 ·refine go ?_;refine bq bD (next:=λ_ _ x (y:Unit) hx=>?_);refine go ?_;refine uB (Jd (b:=bs) (s:=x) (aj:=fu dJ 0)) (λy v hy e=>?_) (λy ch hy e=>?_)
  ·have hm:x∈dJ:=by
    by_cases h:x∈dJ
    ·exact h
    ·exact nF
   rw[xk hm]at hy;subst hy;injection e with e;subst e;have hp:=w9 hm;have h2:1<<<dS x dJ<2^16:=by
    rw[JP,A7];exact oe
   have h3:=Nt hs (l.take k) 0 hall vj;rw[fC];refine(fq rfl rfl (Md (a:=1) (b:=dS x dJ) rfl rfl vj vj)).h ?_;refine(fq rfl rfl (Me (a:=fG dJ (l.take k)) (b:=1<<<dS x dJ) rfl rfl (Nat.lt_trans h3 vj) vj)).h ?_;exact fS
  ·refine go ?_;have hm:x∉dJ:=by
    exact pT
   have hch:ch=tu 160:=by
    rw[rE By]at hy;subst hy;injection e with e;exact e.symm
   subst hch;exact Aa false (hv:=rfl) (hp:=⟨(λh=>by cases h),λ_ h=>hm (h x (aP hx))⟩)
 have hkl:k=l.length:=vj
 subst hkl;rw[bJ]at hall⊢;refine go ?_;exact z8 true (hv:=rfl) (hp:=⟨λ_=>hall,λh=>by cases h⟩)
variable{v:Value}
theorem aet{aF:List (iJ×bP.Y)}(hl:aF.length<=4096):aU Tryz.prog (.func 241) [v] [] [] [rD bP v aF] (λv':Value=>v') (λv'=>[ar bP v' aF]) (λ_=>[]) (λ_=>True):=by
 refine aH _ (aN 241) λB w0=>?_;refine Nr (v:=v) (aF:=aF) bP (λe c ev=>?_) (λe i o f c ev=>?_) (λhne i o f c ev=>?_)
 ·subst e ev;refine go ?_;refine(fq rfl rfl (Ex (e:=62) vA rfl)).h ?_;refine go ?_;refine Ns bP ?_;exact qS
 ·subst e ev;refine go ?_;refine(fq rfl rfl (yK (e:=62) vA rfl)).h ?_;refine go ?_;intro b;refine go ?_;refine Ii (b:=b) ?_;refine go ?_;refine sQ (b:=b) (m:=0) (f:=0) bP (aF:=[]) rfl (.inl rfl) ?_ (hk:=ay.here);exact nB
 ·subst ev;refine go ?_;refine(fq rfl rfl (yK (e:=62) vA rfl)).h ?_;refine go ?_;intro b;refine go ?_;refine Ij (b:=b) bP aF hne vj (λb'=>?_);refine go ?_;refine sQ (b:=b') (m:=aF.length) (f:=bP.n) bP (aF:=aF) rfl (.inr rfl) ?_ (hk:=ay.here);exact ah (.slice (some ⟨b',0,some bP.n⟩) aF.length aF.length) (hv:=rfl) (hp:=trivial)
theorem aeu{aF:List (bA×aY.Y)}(hl:aF.length<=4096):aU Tryz.prog (.func 245) [v] [] [] [rD aY v aF] (λv':Value=>v') (λv'=>[ar aY v' aF]) (λ_=>[]) (λ_=>True):=by
 refine aH _ (aN 245) λB w0=>?_;refine Nr (v:=v) (aF:=aF) aY (λe c ev=>?_) (λe i o f c ev=>?_) (λhne i o f c ev=>?_)
 ·subst e ev;refine go ?_;refine(fq rfl rfl (Ex (e:=93) vA rfl)).h ?_;refine go ?_;refine Ns aY ?_;exact qS
 ·subst e ev;refine go ?_;refine(fq rfl rfl (yK (e:=93) vA rfl)).h ?_;refine go ?_;intro b;refine go ?_;refine Ii (b:=b) ?_;refine go ?_;refine sQ (b:=b) (m:=0) (f:=0) aY (aF:=[]) rfl (.inl rfl) ?_ (hk:=ay.here);exact nB
 ·subst ev;refine go ?_;refine(fq rfl rfl (yK (e:=93) vA rfl)).h ?_;refine go ?_;intro b;refine go ?_;refine Ij (b:=b) aY aF hne vj (λb'=>?_);refine go ?_;refine sQ (b:=b') (m:=aF.length) (f:=aY.n) aY (aF:=aF) rfl (.inr rfl) ?_ (hk:=ay.here);exact ah (.slice (some ⟨b',0,some aY.n⟩) aF.length aF.length) (hv:=rfl) (hp:=trivial)
end Go.Proofs.YtfakljdleblkoaaGreat
set_option maxHeartbeats 4000000
namespace Go.Proofs.YtfakljdleblkoaaGreat
open Go.Ideal Kd
noncomputable def Je:gU:=⟨128,[(.qg 10 2),(.cell1 3)],(.seq (kO [kS 1 (.box 0 28),⟨⟨(some 2),none,(.new [vE,vI,vI,vI,vI,vS,vS,vS,vS,vS] 28)⟩,[]⟩,kS 3 (.new [vI] 40)]) (.seq (kO [kS 11 (.Ba (.func 231) [] [2,3]),kN (.dcall 11 [])]) (.seq (.seq (kO [kS 12 (.fI 6 1),kS 13 (.gB 12),kS 14 (.wD 13),kS 15 (.bin .gtr 3 14 (kI 16))]) (.cond 15 (.seq (kO [kS 16 (.qc 10 2),kN (.store 10 2 16),kN (.store 1 3 (kI 2))]) .ret) .skip)) (.seq (kO [kS 17 (.fI 6 1),kS 18 (.gB 17),⟨⟨(some 19),none,.uY⟩,[]⟩,kS 20 (kC 232 [18,(kI 0),(.func 233),19]),kS 4 (.new [(.map none)] 227),kN (.store 1 4 20)]) (.seq (.ops [21,22,23,24,25,26,5] [kS 21 (.fI 7 1),kS 22 (.gB 21),⟨⟨(some 24),none,.uY⟩,[]⟩,⟨⟨(some 23),none,(kC 237 [])⟩,[⟨(some 22),none,(.gB 21)⟩]⟩,⟨⟨(some 25),none,(kC 236 [23,(kI 0),(.func 238),24])⟩,[⟨(some 22),none,(.gB 21)⟩]⟩,kS 26 (kC 234 [22,(kI 8),(.func 235),25]),kS 5 (.mW 26)]) (.seq (kO [kS 27 (.fI 8 1),kS 28 (.gB 27),⟨⟨(some 29),none,.uY⟩,[]⟩,kS 30 (kC 239 [28,(kI 0),(.func 240),29]),kS 6 (.mW 30)]) (.seq (kO [kS 31 (.fI 8 1),kS 32 (.gB 31),kS 33 (kC 241 [32]),kS 34 (.fI 8 1),kN (.store 1 34 33)]) (.seq (.seq (kO [kS 35 (.fI 8 1),kS 36 (.gB 35),kS 37 (.wD 36),kS 38 (.mv (kI 0))]) (.block 0 (.loop (.seq (kO [kS 39 (.bin .lss 3 38 37)]) (.seq (.cond 39 .skip (.exit 0)) (.seq (.block 1 (.seq (kO [kM 40 38,kS 7 (.mW 40)]) (.ops [41,42,43,44,45,46,47,48,49,50,51,52,53] [kS 41 (.fI 8 1),kS 42 (.gB 41),kM 43 7,kM 44 5,kS 45 (.fI 8 1),kS 46 (.gB 45),kM 47 7,kS 48 (.nG 6 46 47),kS 49 (.fI 1 48),kS 50 (.gB 49),⟨⟨(some 51),none,(kC 242 [44,50])⟩,[⟨(some 42),none,(.gB 41)⟩]⟩,kS 52 (.nG 6 42 43),kS 53 (.fI 2 52),kN (.store 1 53 51)]))) (kO [kS 54 (.bin .add 3 38 (kI 1)),kM 38 54]))))))) (.seq (kO [kS 55 (.fI 9 1),kS 56 (.gB 55),⟨⟨(some 57),none,.uY⟩,[]⟩,kS 58 (kC 243 [56,(kI 0),(.func 244),57])]) (.seq (kO [kS 59 (.fI 9 1),kS 60 (.gB 59),kS 61 (kC 245 [60]),kS 62 (.fI 9 1),kN (.store 1 62 61)]) (.seq (kO [kS 63 (.Ba (.func 246) [] [4]),kS 8 (.mW 63)]) (.seq (.seq (kO [kS 64 (.fI 9 1),kS 65 (.gB 64),kS 66 (.wD 65),kS 67 (.mv (kI 0))]) (.block 2 (.loop (.seq (kO [kS 68 (.bin .lss 3 67 66)]) (.seq (.cond 68 .skip (.exit 2)) (.seq (.block 3 (.seq (kO [kM 69 67,kS 9 (.mW 69)]) (.seq (kO [kS 70 (.fI 9 1),kS 71 (.gB 70),kM 72 9,kS 73 (.nG 12 71 72),kS 10 (.mW 73)]) (.seq (kO [kM 74 10,kM 75 10,kS 76 (.kT 74),kS 77 (.fI 3 76),kN (.store 1 77 (kI 0)),kS 78 (.kT 75),kS 79 (.fI 11 78),kN (.store 1 79 (.const (.int .i64 (-1))))]) (.seq (.seq (kO [kM 80 10,kS 81 (.kT 80),kS 82 (.fI 1 81),kS 83 (.gB 82),⟨⟨(some 84),none,(.bin .neq 9 83 (.const vE))⟩,[]⟩]) (.cond 84 (kO [kM 85 10,kM 86 5,kM 87 10,kS 88 (.kT 87),kS 89 (.fI 1 88),kS 90 (.gB 89),kS 91 (kC 242 [86,90]),kS 92 (.kT 85),kS 93 (.fI 3 92),kN (.store 1 93 91)]) .skip)) (.seq (.ops [94,95,96,97,98,99,100,101,102,103,104,105,106,107,108,109,110,111] [kM 94 10,kM 95 10,kM 96 8,kM 97 10,kS 98 (.kT 97),kS 99 (.fI 4 98),kS 100 (.gB 99),kM 102 8,kM 103 10,kS 104 (.kT 103),kS 105 (.fI 5 104),kS 106 (.gB 105),⟨⟨(some 101),none,(.call 96 [100])⟩,[⟨(some 106),none,(.gB 105)⟩]⟩,kS 107 (.call 102 [106]),kS 108 (.kT 94),kS 109 (.fI 6 108),kN (.store 1 109 101),kS 110 (.kT 95),kS 111 (.fI 7 110),kN (.store 1 111 107)]) (.seq (kO [kM 112 10,kS 113 (.kT 112),kS 114 (.fI 10 113),kS 115 (.gB 114),⟨⟨(some 116),none,(.bin .neq 9 115 (.const vE))⟩,[]⟩]) (.cond 116 (kO [kM 117 10,kM 118 6,kM 119 10,kS 120 (.kT 119),kS 121 (.fI 10 120),kS 122 (.gB 121),kS 123 (kC 242 [118,122]),kS 124 (.kT 117),kS 125 (.fI 11 124),kN (.store 1 125 123)]) .skip)))))))) (kO [kS 126 (.bin .add 3 67 (kI 1)),kM 67 126]))))))) (.seq (kO [kS 127 (.qc 10 1),kN (.store 10 2 127),kN (.store 1 3 (kI 0))]) .ret)))))))))))))⟩
theorem aev:kU Tryz.prog 172=some Je:=vA
theorem dY(a b:ByteArray):(a.toList==b.toList)=decide (a=b):=by
 rw[ByteArray.toList_eq,ByteArray.toList_eq];by_cases h:a=b
 ·subst h;simp
 ·rw[aS h];cases hb:a.data.toList==b.data.toList with
  |false=>rfl
  |true=>
   have:=eq_of_beq hb;exact absurd (ByteArray.ext (Array.ext' this)) h
abbrev vR:List Value:=[.string ⟨⟨[]⟩⟩,.int .i64 0,.int .i64 0,.int .i64 0,.int .i64 0,.slice none 0 0,.slice none 0 0,.slice none 0 0,.slice none 0 0,.slice none 0 0]
variable{b2 b3:Nat}
theorem aew:H8 Tryz.prog (.func 231) [] [ptr' b2,ptr' b3] .returning [] [] (λ_:Unit=>.ok (.tuple ⟨[]⟩)) (λ_=>.returning) (λ_=>[]) (λ_=>[]) (λ_=>True):=by
 refine RG Nq Uy λB w0=>?_;refine go ?_;refine RH (v:=.nilIface) (m':=.returning) rfl ?_;refine go ?_;refine(fq (v:=.bool false) rfl rfl (λh=>by
  show(match lU Tryz.prog .neq 20 (.tmp 4) (.const .nilIface) .nilIface .nilIface with|some v=>some (v,h)|none=>none)=_;rw[show lU Tryz.prog .neq 20 (.tmp 4) (.const .nilIface) .nilIface .nilIface=some (.bool false)by kernel_rfl])).h ?_
 refine go ?_;exact RN () (hv:=rfl) (hm:=rfl) (hp:=trivial)
theorem aex{e:Int}(he:e=160\/e=161):H8 Tryz.prog (.func 231) [] [ptr' b2,ptr' b3] (.panicking (tu e)) [pt b2 (.cells vR),pt b3 (.cells [.int .i64 0])] [] (λ_:Unit=>.ok (.tuple ⟨[]⟩)) (λ_=>.panicking [{v:=.iface 40 (.int .i64 e),recovered:=true}])
 (λ_=>[pt b2 (.cells vR),pt b3 (.cells [.int .i64 e])]) (λ_=>[]) (λ_=>True):=by
 refine RG Nq Uy λB w0=>?_;refine go ?_;refine RH (v:=.iface 40 (.int .i64 e)) (m':=.panicking [{v:=.iface 40 (.int .i64 e),recovered:=true}]) rfl ?_;refine go ?_;refine(fq (v:=.bool true) rfl rfl (λh=>by
  show(match lU Tryz.prog .neq 20 (.tmp 4) (.const .nilIface) (.iface 40 (.int .i64 e)) .nilIface with|some v=>some (v,h)|none=>none)=_;rcases he with rfl|rfl
  ·rw[show lU Tryz.prog .neq 20 (.tmp 4) (.const .nilIface) (.iface 40 (.int .i64 160)) .nilIface=some (.bool true)by kernel_rfl]
  ·rw[show lU Tryz.prog .neq 20 (.tmp 4) (.const .nilIface) (.iface 40 (.int .i64 161)) .nilIface=some (.bool true)by kernel_rfl])).h ?_
 refine go ?_;exact RN () (hv:=rfl) (hm:=rfl) (hp:=trivial)
structure ES where
 ok:Bool
 e:Int
 vc:Value
 vu:Value
abbrev rG(d:bE)(vh vs vr:Value)(y:ES):Value:=.tuple ⟨[.agg ⟨cond y.ok (gu (Kd.bF d) vh vs vr y.vc y.vu) vR⟩,.int .i64 y.e]⟩
abbrev ou(d:bE)(y:ES):List aK:=cond y.ok [ai bP y.vc (Kd.bF d).aJ,ai aY y.vu (Kd.bF d).rules] []
def Ap(d:bE)(y:ES):Prop:=(y.ok=true->y.e=0/\Cf d)/\(y.ok=false->y.e≠0/\¬Cf d)
structure mM(d:bE):Prop where
 dJ:d.symbols.length<=4096
 regs:d.regions.length<=4096
 jR:d.aJ.length<=4096
 lQ:d.rules.length<=4096
 vT:∀r∈d.rules,r.names.length<9223372036854775808/\r.others.length<9223372036854775808
 holes:d.holes.length<9223372036854775808
 vU:∀r∈d.regions,r.lists.length<9223372036854775808/\∀l∈r.lists,l.length<9223372036854775808
section
variable {B:List Nat} {w0:Wd} {kl bG:List OA} {F:List aK} {l:List (Nat×Value)} {b2 b3:Nat} {n:Nat}
theorem xB{d:bE}{vh vs vr:Value}{e:Int}(he:e=160\/e=161)(hno:¬Cf d)(h2:lk l 2=ptr' b2)(h3:lk l 3=ptr' b3)(hk:aI [pt b2 (.cells vR),pt b3 (.cells [.int .i64 0])] kl bG):
 R (λh=>ry Tryz.prog Je (zZ B w0 (λy=>.ok (rG d vh vs vr y)) (λ_=>[]) (ou d) (Ap d)) (.panic (tu e)) (act n l [{target:=.fn (.func 231) ⟨[ptr' b2,ptr' b3]⟩,args:=⟨[]⟩}] none none) h) B w0 kl F:=by
 refine Ep (m:=.panicking (tu e)) ?_;refine RI (bG:=bG) (eU:=λ_=>[pt b2 (.cells vR),pt b3 (.cells [.int .i64 e])]++bG) (F2:=λ_=>F) (aex (b2:=b2) (b3:=b3) he) (λy v _ _=>?_) (λy ch _ hc=>by cases hc) (hk:=hk) (hF:=.nil) (hk2:=λ_=>bR.app) (hF2:=λ_=>bR.nil);show RL _ _ _ _ .returning _ _ _ _ _;refine RO (bG:=[pt b2 (.cells vR),pt b3 (.cells [.int .i64 e])]++bG) (vs:=[.agg ⟨vR⟩,.int .i64 e]) ⟨false,e,.nilFunc,.nilFunc⟩ rfl ⟨(λh=>by cases h),λ_=>⟨by rcases he with rfl|rfl<;>simp,hno⟩⟩ (hr:=?_) (hk:=.nil) (hF:=.nil);show RS l _ [.qg 10 2,.cell1 3] _;exact .qg h2 .here rfl (.cell1 h3 (.there .here) rfl .nil)
end
section
variable {B:List Nat} {w0:Wd} {kl bG:List OA} {F:List aK} {l:List (Nat×Value)} {b2 b3:Nat} {n:Nat}
theorem UC{d:bE}{vh vs vr:Value}{o:Out}{cs:List Value}{e:Int}(y:ES)(ho:tY o=some .returning)(hcs:cs=cond y.ok (gu (Kd.bF d) vh vs vr y.vc y.vu) vR)(hl:cs.length=10)(hy:y.e=e)(hp:Ap d y)(hF:∀w,(∀f∈F,f.p w)->∀f∈ou d y,f.p w)(h2:lk l 2=ptr' b2)(h3:lk l 3=ptr' b3)(hk:aI [pt b2 (.cells cs),pt b3 (.cells [.int .i64 e])] kl bG):
 R (λh=>ry Tryz.prog Je (zZ B w0 (λy=>.ok (rG d vh vs vr y)) (λ_=>[]) (ou d) (Ap d)) o (act n l [{target:=.fn (.func 231) ⟨[ptr' b2,ptr' b3]⟩,args:=⟨[]⟩}] none none) h) B w0 kl F:=by
 refine Ep (m:=.returning) ?_ ho;refine RI (k1:=[]) (bG:=kl) (eU:=λ_=>kl) (F2:=λ_=>F) (aew (b2:=b2) (b3:=b3)) (λ_ v _ _=>?_) (λ_ ch _ hc=>by cases hc) (hk:=.nil) (hF:=.nil) (hk2:=λ_=>bR.nil) (hF2:=λ_=>bR.nil);show RL _ _ _ _ .returning _ _ _ _ _;intro w s;have s':St B w0 ([pt b2 (.cells cs),pt b3 (.cells [.int .i64 e])]++bG) (ou d y) w:=by
  have:=s.j4 hk;exact⟨this.agree,this.le,this.gF,this.own,hF w this.facts⟩
 refine RO (F:=ou d y) (bG:=[pt b2 (.cells cs),pt b3 (.cells [.int .i64 e])]++bG) (vs:=[.agg ⟨cs⟩,.int .i64 e]) y ?_ hp (hr:=?_) (hk:=.nil) (hF:=?_) w s'
 ·show iP.ok (rG d vh vs vr y)=_;unfold rG;rw[<- hcs,hy];rfl
 ·show RS l _ [.qg 10 2,.cell1 3] _;exact .qg h2 .here (by rw[qV,sD,CS,if_pos vj,<- hl,bJ]) (.cell1 h3 (.there .here) rfl .nil)
 ·have:∀k:List aK,Sub k k:=λk=>by
   have:=Sub.refl' k [];simpa using this
  exact this _
end
variable{X:List (bA×aY.Y)}{k:Nat}
theorem Ct(hk:k<X.length){q q':bA×aY.Y}{j:Nat}{v:Value}(h:(aY.pat q.1 q.2).set j v=aY.pat q'.1 q'.2)(hj:j<12):(fZ aY (X.set k q)).set (0+k*12+j) v=fZ aY (X.set k q'):=by
 rw[fC];have:=Mt (E:=aY) (aF:=X.set k q) (k:=k) (p:=q) (p':=q') (by rw[o9,if_pos rfl,if_pos hk]) h hj;rw[List.set_set]at this;exact this
theorem Aq(hk:k<X.length){q:bA×aY.Y}{j:Nat}{u:Value}(h:(aY.pat q.1 q.2)[j]? =some u):(fZ aY (X.set k q))[0+k*12+j]? =some u:=by
 rw[fC];exact Ac (E:=aY) (aF:=X.set k q) (k:=k) (by rw[o9,if_pos rfl,if_pos hk]) h
theorem Cu(hk:k<X.length){q:bA×aY.Y}{j:Nat}(hj:j<12):0+k*12+j<(fZ aY (X.set k q)).length:=by
 rw[Ew,uX];show 0+k*12+j<X.length*12;omega
theorem UD{d:bE}{vh vs vr vc vu:Value}(hS:mM d):aU Tryz.prog (.func 172) [.agg ⟨gu d vh vs vr vc vu⟩] [] [] (lZ d vh vs vr vc vu) (rG d vh vs vr) (λ_=>[]) (ou d) (Ap d):=by
 refine qx.toC _ ?_ (λ_ _=>rfl);have hsl:=hS.dJ;have hrl:=hS.regs;have hcl:=hS.jR;have vV:=hS.lQ;refine yG Je aev λB w0=>?_;refine go ?_;intro b1 b2 b3;refine go ?_;refine ab0 ?_;refine go ?_;refine az rfl (λh1=>?_) (λh1=>?_)
 ·refine go ?_;exact UC (e:=2) (cs:=vR) ⟨false,2,.nilFunc,.nilFunc⟩ rfl rfl rfl rfl ⟨(λh=>by cases h),λ_=>⟨vm,λh=>by have:=h.dJ;omega⟩⟩ (λw _ f hf=>by cases hf) rfl rfl we
 have hsy:(bN d).length<=16:=by show(d.symbols.map (·.name)).length<=16;rw[cz];omega
 refine go ?_;refine yH iU (λbs=>?_);refine go ?_;refine uB (aeo (b:=bs) (start:=0) (aj:=[]) hsl vj wy) (λy v hy e=>?_) (λy ch hy e=>?_)
 rotate_left
 ·obtain⟨y,ns⟩:=y;cases y with
  |true=>cases e
  |false=>
   injection e with e;subst e;refine go ?_;exact xB (e:=161) (.inr rfl) (λh=>hy.2 rfl (by simpa[bN]using h.Td)) rfl rfl we
 obtain⟨y,ns⟩:=y;cases y with
 |false=>cases e
 |true=>
 injection e with e;subst e;have hns:ns=bN d:=(hy.1 rfl).1;have hsn:(bN d).Nodup:=by have:=(hy.1 rfl).2;simpa[bN]using this
 clear hy;subst hns;dsimp only;rw[show([]:List (ByteArray×Value))++fu _ 0=fu _ 0 from rfl];refine bi (BX (b:=bs)) (h:=?_);refine go ?_;intro b4;refine go ?_;refine yH iU (λbf=>?_);refine ax aes (next:=λvg _=>?_);refine uB (aen (b:=bf) (xs:=iG) (start:=0) (aj:=[]) wj vj wy) (λy v hy e=>?_) (λy ch hy e=>?_)
 rotate_left
 ·obtain⟨y,ns⟩:=y;cases y with
  |true=>cases e
  |false=>exact absurd wj (hy.2 rfl)
 obtain⟨y,ns⟩:=y;cases y with
 |false=>cases e
 |true=>
 injection e with e;subst e;have hns:ns=iG:=(hy.1 rfl).1;clear hy;subst hns;dsimp only;rw[show([]:List (ByteArray×Value))++fu _ 0=fu _ 0 from rfl];refine uB (aep (b:=bf) (start:=8) (aj:=fu iG 0) hrl vj (by rw[sW];decide)) (λy v hy e=>?_) (λy ch hy e=>?_)
 rotate_left
 ·obtain⟨y,ns⟩:=y;cases y with
  |true=>cases e
  |false=>
   injection e with e;subst e;refine go ?_;exact xB (e:=161) (.inr rfl) (λh=>hy.2 rfl (by rw[sW];exact h.Te)) rfl rfl we
 obtain⟨y,ns⟩:=y;cases y with
 |false=>cases e
 |true=>
 injection e with e;subst e;have hns:ns=d.regions.map mH.name:=(hy.1 rfl).1;have hfn:(bX d).Nodup:=by have:=(hy.1 rfl).2;rw[sW]at this;exact this
 clear hy;subst hns;dsimp only;have hfe:fu iG 0++fu (d.regions.map mH.name) 8=fu (bX d) 0:=by
  unfold bX;rw[MK];rfl
 rw[hfe];clear hfe;refine bi (BX (b:=bf)) (h:=?_);refine go ?_;refine yH iU (λbc=>?_);refine go ?_;refine uB (aeq (b:=bc) (start:=0) (aj:=[]) hcl vj wy) (λy v hy e=>?_) (λy ch hy e=>?_)
 rotate_left
 ·obtain⟨y,ns⟩:=y;cases y with
  |true=>cases e
  |false=>
   injection e with e;subst e;refine go ?_;exact xB (e:=161) (.inr rfl) (λh=>hy.2 rfl (by simpa[dI]using h.Tf)) rfl rfl we
 obtain⟨y,ns⟩:=y;cases y with
 |false=>cases e
 |true=>
 injection e with e;subst e;have hns:ns=dI d:=(hy.1 rfl).1;have hcn:(dI d).Nodup:=by have:=(hy.1 rfl).2;simpa[dI]using this
 clear hy;subst hns;dsimp only;rw[show([]:List (ByteArray×Value))++fu _ 0=fu _ 0 from rfl];refine bi (BX (b:=bc)) (h:=?_);refine go ?_;refine Ig bP vc (λxc Cv=>?_);have hxl:xc.length=d.aJ.length:=by rw[<- Cv,cz]
 refine ax (aet (aF:=xc) vj) (next:=λv1 _=>?_);refine Sg (E:=bP) (v:=v1) (aF:=xc) (λa1 e1=>?_);subst e1;refine go ?_;let f1:iJ×bP.Y->iJ×bP.Y:=λp=>(lI (bX d) p.1,p.2)
 rw[show ar bP (.slice a1 xc.length xc.length) xc=ar bP (.slice a1 xc.length xc.length) (jo f1 0 xc)from rfl];refine aW (λk=>xc.length - k) (λk:Nat=>[(38,.int .i64 (k:Int))]) (λk=>[ar bP (.slice a1 xc.length xc.length) (jo f1 k xc)]) (λ_=>[]) (λk=>k<=xc.length/\∀p∈xc.take k,p.1.on∈bX d) 0 ⟨bQ _,vm⟩ (body:=?_);rintro k ⟨hk,hall⟩;refine go ?_;refine az rfl (λh2=>?_) (λh2=>?_)
 ·refine go ?_;refine Sd (E:=bP) (aF:=jo f1 k xc) (by rw[yN];omega) (λbx fx hfx ev=>?_);injection ev with ea _ _;subst ea;refine go ?_;obtain⟨p,hp⟩:∃p,xc[k]? =some p:=⟨xc[k]'(vj),bW _⟩
  have hget:(jo f1 k xc)[k]? =some p:=by rw[Tj _ vj];exact hp
  have kD:p.1∈d.aJ:=by rw[<- Cv];exact JR (aP hp)
  refine rA (o:=0+k*6+1) (cs:=fZ bP (jo f1 k xc)) (.string p.1.on) (by rw[fC];exact Ac (E:=bP) (j:=1) hget rfl) ?_;refine uB (Jd (b:=bf) (s:=p.1.on) (aj:=fu (bX d) 0)) (λy v hy e=>?_) (λy ch hy e=>?_)
  rotate_left
  ·have hm:p.1.on∉bX d:=by
    exact pT
   rw[rE By]at hy;subst hy;injection e with e;subst e;refine go ?_;exact xB (e:=160) (.inl rfl) (λh=>hm (h.ML p.1 kD)) rfl rfl we
  have hm:p.1.on∈bX d:=by
   by_cases h:p.1.on∈bX d
   ·exact h
   ·exact nF
  rw[xk hm]at hy;subst hy;injection e with e;subst e;rw[fC];refine go ?_;refine rz (o:=0+k*6+2) (cs:=fZ bP (jo f1 k xc)) (cs':=fZ bP (jo f1 (k+1) xc)) (v:=.int .i64 ((dS p.1.on (bX d):Nat):Int)) (by rw[fC,<- Tk f1 hp];exact Mt (E:=bP) (j:=2) (p':=f1 p) hget rfl wj) (by rw[Ew,yN];show 0+k*6+2<xc.length*6;omega) ?_;refine go ?_;refine sQ (b:=bx) (f:=fx) (m:=xc.length) bP (aF:=jo f1 (k+1) xc) (by rw[yN]) hfx ?_;refine aM (k+1) vj ⟨vj,λq hq=>?_⟩;rw[nE,hp]at hq;rcases dW.1 hq with h|h
  ·exact hall q h
  ·have:q=p:=by simpa using h
   rw[this];exact hm
 have hkl:k=xc.length:=vj
 subst hkl;rw[bJ]at hall;have hcon:∀c∈d.aJ,c.on∈bX d:=by
  intro c hc;rw[<- Cv]at hc;obtain⟨p,hp,rfl⟩:=eG.1 hc;exact hall p hp
 clear hall hk;rw[Ti];refine go ?_;refine yH iU (λbu=>?_);refine go ?_;refine uB (aer (b:=bu) (start:=0) (aj:=[]) vV vj wy) (λy v hy e=>?_) (λy ch hy e=>?_)
 rotate_left
 ·obtain⟨y,ns⟩:=y;cases y with
  |true=>cases e
  |false=>
   injection e with e;subst e;refine go ?_;exact xB (e:=161) (.inr rfl) (λh=>hy.2 rfl (by simpa[ny]using h.Tg)) rfl rfl we
 obtain⟨y,ns⟩:=y;cases y with
 |false=>cases e
 |true=>
 injection e with e;subst e;have hrn:(ny d).Nodup:=by have:=(hy.1 rfl).2;simpa[ny]using this
 clear hy;dsimp only;refine bi (BX (b:=bu)) (h:=?_);refine go ?_;refine Ig aY vu (λxr oQ=>?_);have ajr:xr.length=d.rules.length:=by rw[<- oQ,cz]
 refine ax (aeu (aF:=xr) vj) (next:=λv2 _=>?_);refine Sg (E:=aY) (v:=v2) (aF:=xr) (λa2 e2=>?_);subst e2;refine go ?_;refine bi (dR (b:=b4)) (h:=?_);refine go ?_;let f2:bA×aY.Y->bA×aY.Y:=λp=>(mI (bN d) (bX d) (dI d) p.1,p.2)
 rw[show ar aY (.slice a2 xr.length xr.length) xr=ar aY (.slice a2 xr.length xr.length) (jo f2 0 xr)from rfl];refine Sc (E:=aY) (v:=vu) (aF:=xr) ?_;refine aW (λk=>xr.length - k) (λk:Nat=>[(67,.int .i64 (k:Int))]) (λk=>[ar aY (.slice a2 xr.length xr.length) (jo f2 k xr)]) (λ_=>[]) (λk=>k<=xr.length/\∀p∈xr.take k,Af (bN d) (bX d) (dI d) p.1) 0 ⟨bQ _,vm⟩ (body:=?_);rintro k ⟨hk,hall⟩;refine go ?_;refine az rfl (λh2=>?_) (λh2=>?_)
 ·refine go ?_;refine Sd (E:=aY) (aF:=jo f2 k xr) (by rw[yN];omega) (λdm fy UE ev=>?_);injection ev with ea _ _;subst ea;obtain⟨p,hp⟩:∃p,xr[k]? =some p:=⟨xr[k]'(vj),bW _⟩
  have hpm:=aP hp;have hget:(jo f2 k xr)[k]? =some p:=by rw[Tj _ vj];exact hp
  have kD:p.1∈d.rules:=by rw[<- oQ];exact JR hpm
  have hfin:=Tk f2 hp;obtain⟨r,v3,v4⟩:=p;have hrs:=hS.vT r kD;have l7:k<(jo f2 k xr).length:=by rw[yN];omega
  have aey:(jo f2 k xr).length=xr.length:=yN _ _ _;have e0:jo f2 k xr=(jo f2 k xr).set k (r,v3,v4):=by
   apply jv;intro i;rw[o9];by_cases hi:k=i
   ·subst hi;rw[if_pos rfl,if_pos l7,hget]
   ·rw[if_neg hi]
  refine fK (ai bD v3 r.names) (λw h=>h (wZ aY xr) (cZ ..) _ hpm _ (cZ ..)) ?_;refine fK (ai bD v4 r.others) (λw h=>h (wZ aY xr) (dA _ (cZ ..)) _ hpm _ (dA _ (cZ ..))) ?_;rw[e0];rw[<- e0];generalize hX:jo f2 k xr=X at l7 aey e0 hfin;rw[e0];refine go ?_;refine rz (o:=0+k*12+3) (cs:=fZ aY (X.set k (r,v3,v4))) (cs':=fZ aY (X.set k ({r with family:=0},v3,v4))) (v:=.int .i64 0) (Ct l7 rfl vj) (Cu l7 vj) ?_;refine go ?_;refine rz (o:=0+k*12+11) (cs:=fZ aY (X.set k ({r with family:=0},v3,v4))) (cs':=fZ aY (X.set k ({r with family:=0,aQ:= -1},v3,v4))) (v:=.int .i64 (-1)) (Ct l7 rfl vj) (Cu l7 vj) ?_;refine go ?_;refine rA (o:=0+k*12+1) (cs:=fZ aY (X.set k ({r with family:=0,aQ:= -1},v3,v4))) (.string r.on) (Aq l7 rfl) ?_;refine go ?_;refine RB (bG:=[pt b1 (.cells [.string d.name,.int .i64 d.version,.int .i64 d.shape,.int .i64 d.w,.int .i64 d.h,vh,vs,vr,.slice a1 xc.length xc.length,.slice (some ⟨dm,0,some fy⟩) xr.length xr.length]),ar bP (.slice a1 xc.length xc.length) (xc.map f1),pt b3 (.cells [.int .i64 0]),pt b2 (.cells vR)]) [] (λ_:Unit=>[]) (λ_=>[pt dm (.cells (fZ aY (X.set k ({r with family:=if r.on=⟨⟨[]⟩⟩then 0 else(dS r.on (bX d):Int),aQ:= -1},v3,v4))))]) (λ_=>[]) (λ_=>r.on=⟨⟨[]⟩⟩\/r.on∈bX d) (hx:=?_) (hy:=?_)
  ·refine eO (p:=r.on=⟨⟨[]⟩⟩) zp (λh3=>?_) (λh3=>?_)
   ·refine go ?_;refine rA (o:=0+k*12+1) (cs:=fZ aY (X.set k ({r with family:=0,aQ:= -1},v3,v4))) (.string r.on) (Aq l7 rfl) ?_;refine uB (Jd (b:=bf) (s:=r.on) (aj:=fu (bX d) 0)) (λy v hy e=>?_) (λy ch hy e=>?_)
    rotate_left
    ·have hm:r.on∉bX d:=by
      exact pT
     rw[rE By]at hy;subst hy;injection e with e;subst e;refine go ?_;refine abY ?_;refine go ?_;exact xB (e:=160) (.inl rfl) (λh=>(h.nA r kD).on.elim h3 hm) rfl rfl we
    have hm:r.on∈bX d:=by
     by_cases h:r.on∈bX d
     ·exact h
     ·exact nF
    rw[xk hm]at hy;subst hy;injection e with e;subst e;rw[fC];refine go ?_;refine rz (o:=0+k*12+3) (cs:=fZ aY (X.set k ({r with family:=0,aQ:= -1},v3,v4))) (cs':=fZ aY (X.set k ({r with family:=if r.on=⟨⟨[]⟩⟩then 0 else(dS r.on (bX d):Int),aQ:= -1},v3,v4))) (v:=.int .i64 ((dS r.on (bX d):Nat):Int)) (by rw[if_neg h3];exact Ct l7 rfl vj) (Cu l7 vj) ?_;refine go ?_;exact H7 () (.inr hm)
   ·refine go ?_;rw[show({r with family:=0,aQ:= -1}:bA)={r with family:=if r.on=⟨⟨[]⟩⟩then 0 else(dS r.on (bX d):Int),aQ:= -1}by rw[if_pos h3]];exact H7 () (.inl h3)
  intro _ hon;generalize hfm:(if r.on=⟨⟨[]⟩⟩then 0 else(dS r.on (bX d):Int))=fm;refine go ?_;refine rA (o:=0+k*12+4) (cs:=fZ aY (X.set k ({r with family:=fm,aQ:= -1},v3,v4))) v3 (Aq l7 rfl) ?_;refine go ?_;refine rA (o:=0+k*12+5) (cs:=fZ aY (X.set k ({r with family:=fm,aQ:= -1},v3,v4))) v4 (Aq l7 rfl) ?_;refine go ?_;refine uB (UB (b4:=b4) (bs:=bs) (vl:=v3) (dJ:=bN d) (l:=r.names) hsy hrs.1) (λy v hy e=>?_) (λy ch hy e=>?_)
   (hs:=λy v _ _=>BM (b:=dm) (o:=0+k*12+5) (cs:=fZ aY (X.set k ({r with family:=fm,aQ:= -1},v3,v4))) (v:=v4) rfl (by repeat (first|exact ay.here|apply ay.there)) (by rw[ql];exact Aq l7 rfl) rfl BL)
  rotate_left
  ·cases y with
   |true=>cases e
   |false=>
    injection e with e;subst e;refine go ?_;exact xB (e:=160) (.inl rfl) (λh=>hy.2 rfl (h.nA r kD).names) rfl rfl we
  cases y with
  |false=>cases e
  |true=>
  injection e with e;subst e;have aez:=hy.1 rfl;clear hy;refine go ?_;refine go ?_;refine uB (UB (b4:=b4) (bs:=bs) (vl:=v4) (dJ:=bN d) (l:=r.others) hsy hrs.2) (λy v hy e=>?_) (λy ch hy e=>?_)
  rotate_left
  ·cases y with
   |true=>cases e
   |false=>
    injection e with e;subst e;refine go ?_;exact xB (e:=160) (.inl rfl) (λh=>hy.2 rfl (h.nA r kD).others) rfl rfl we
  cases y with
  |false=>cases e
  |true=>
  injection e with e;subst e;have aeA:=hy.1 rfl;clear hy;refine go ?_;refine rz (o:=0+k*12+6) (cs:=fZ aY (X.set k ({r with family:=fm,aQ:= -1},v3,v4))) (cs':=fZ aY (X.set k ({r with family:=fm,aQ:= -1,set:=(fG (bN d) r.names:Int)},v3,v4))) (v:=.int .i64 (fG (bN d) r.names:Int)) (Ct l7 rfl vj) (Cu l7 vj) ?_;refine go ?_;refine rz (o:=0+k*12+7) (cs:=fZ aY (X.set k ({r with family:=fm,aQ:= -1,set:=(fG (bN d) r.names:Int)},v3,v4))) (cs':=fZ aY (X.set k ({r with family:=fm,aQ:= -1,set:=(fG (bN d) r.names:Int),other:=(fG (bN d) r.others:Int)},v3,v4))) (v:=.int .i64 (fG (bN d) r.others:Int)) (Ct l7 rfl vj) (Cu l7 vj) ?_;refine go ?_;refine rA (o:=0+k*12+10) (cs:=fZ aY (X.set k ({r with family:=fm,aQ:= -1,set:=(fG (bN d) r.names:Int),other:=(fG (bN d) r.others:Int)},v3,v4))) (.string r.dm) (Aq l7 rfl) ?_;refine go ?_;have hnext:(r.dm=⟨⟨[]⟩⟩\/r.dm∈dI d)->∀q∈xr.take (k+1),Af (bN d) (bX d) (dI d) q.1:=by
   intro hby q hq;rw[nE,hp]at hq;rcases dW.1 hq with h|h
   ·exact hall q h
   ·have:q=(r,v3,v4):=bK.1 (show q∈[(r,v3,v4)]from h);rw[this];exact⟨hon,aez,aeA,hby⟩
  refine eO (p:=r.dm=⟨⟨[]⟩⟩) zp (λh3=>?_) (λh3=>?_)
  ·refine go ?_;refine rA (o:=0+k*12+10) (cs:=fZ aY (X.set k ({r with family:=fm,aQ:= -1,set:=(fG (bN d) r.names:Int),other:=(fG (bN d) r.others:Int)},v3,v4))) (.string r.dm) (Aq l7 rfl) ?_;refine uB (Jd (b:=bc) (s:=r.dm) (aj:=fu (dI d) 0)) (λy v hy e=>?_) (λy ch hy e=>?_)
   rotate_left
   ·have hm:r.dm∉dI d:=by
     exact pT
    rw[rE By]at hy;subst hy;injection e with e;subst e;refine go ?_;exact xB (e:=160) (.inl rfl) (λh=>(h.nA r kD).dm.elim h3 hm) rfl rfl we
   have hm:r.dm∈dI d:=by
    by_cases h:r.dm∈dI d
    ·exact h
    ·exact nF
   rw[xk hm]at hy;subst hy;injection e with e;subst e;rw[fC];refine go ?_;refine rz (o:=0+k*12+11) (cs:=fZ aY (X.set k ({r with family:=fm,aQ:= -1,set:=(fG (bN d) r.names:Int),other:=(fG (bN d) r.others:Int)},v3,v4))) (cs':=fZ aY (X.set k (f2 (r,v3,v4)))) (v:=.int .i64 ((dS r.dm (dI d):Nat):Int)) (Ct l7 (by show _=jI (mI (bN d) (bX d) (dI d) r) v3 v4;unfold mI;rw[if_neg h3,hfm];rfl) vj) (Cu l7 vj) ?_;refine go ?_;rw[hfin];refine sQ (b:=dm) (f:=fy) (m:=xr.length) aY (aF:=jo f2 (k+1) xr) (by rw[yN]) UE ?_;exact aM (k+1) vj ⟨vj,hnext (.inr hm)⟩
  ·refine go ?_;rw[show X.set k (({r with family:=fm,aQ:= -1,set:=(fG (bN d) r.names:Int),other:=(fG (bN d) r.others:Int)}:bA),v3,v4)=jo f2 (k+1) xr by
    rw[<- hfin];congr 1;show _=(mI (bN d) (bX d) (dI d) r,v3,v4)
    unfold mI;rw[if_pos h3,hfm];rfl]
   refine sQ (b:=dm) (f:=fy) (m:=xr.length) aY (aF:=jo f2 (k+1) xr) (by rw[yN]) UE ?_;exact aM (k+1) vj ⟨vj,hnext (.inl h3)⟩
 have hkl:k=xr.length:=vj
 subst hkl;rw[bJ]at hall;rw[Ti];refine Ih (E:=bP) (v:=.slice a1 xc.length xc.length) (aF:=xc.map f1) ?_ (λw h p hp f hf=>by cases hf);refine Ih (E:=aY) (v:=.slice a2 xr.length xr.length) (aF:=xr.map f2) ?_ (λw h p hp f hf=>by
  obtain⟨q,hq,rfl⟩:=eG.1 hp;exact h (wZ aY xr) (dA _ (dA _ (cZ ..))) q hq f hf)
 refine go ?_;refine UC (e:=0) ⟨true,0,.slice a1 xc.length xc.length,.slice a2 xr.length xr.length⟩ rfl wg rfl rfl ⟨λ_=>⟨rfl,⟨vj,hsn,hfn,hcn,hcon,hrn,λr hr=>?_⟩⟩,λh=>by cases h⟩ (λw h f hf=>?_) rfl rfl we
 ·rw[<- oQ]at hr;obtain⟨p,hp,rfl⟩:=eG.1 hr;exact hall p hp
 ·have ec:(xc.map f1).map (·.1)=(Kd.bF d).aJ:=by
   show _=d.aJ.map (lI (bX d));rw[<- Cv,xS,xS];rfl
  have er:(xr.map f2).map (·.1)=(Kd.bF d).rules:=by
   show _=d.rules.map (mI (bN d) (bX d) (dI d));rw[<- oQ,xS,xS];rfl
  rw[ec,er]at h;have hf:f∈[ai bP (.slice a1 xc.length xc.length) (Kd.bF d).aJ,ai aY (.slice a2 xr.length xr.length) (Kd.bF d).rules]:=hf;rcases dH.1 hf with rfl|hf
  ·exact h _ vm
  ·rw[bK.1 hf];exact h _ vm
end Go.Proofs.YtfakljdleblkoaaGreat
namespace Go.Proofs.YtfakljdleblkoaaGreat
open Go.Ideal Kd
variable{va vb:Value}{xs ys:List (List Int)}
theorem UF(hal:xs.length<9223372036854775808)(hl:∀l∈xs,l.length<9223372036854775808):dL Tryz.prog 179 [va,vb,.func (.func 73) #[] #[]] [ai (ak ae) va xs,ai (ak ae) vb ys] (.bool (decide (xs=ys))):=by
 refine aH _ (aN 179) λB w0=>?_;refine go ?_;refine az rfl (λh1=>?_) (λh1=>?_)
 ·exact cW
 have hlen:xs.length=ys.length:=vj
 refine go ?_;refine aW (λk=>xs.length - k) (λk:Nat=>[(17,.int .i64 (k:Int))]) (λ_=>[]) (λ_=>[]) (λk=>k<=xs.length/\∀j,j<k->xs[j]? =ys[j]?) 0 ⟨vj,λj hj=>by omega⟩ (body:=?_);rintro k ⟨hkx,hsame⟩;refine go ?_;refine az rfl (λh2=>?_) (λh2=>?_)
 ·refine go ?_;refine bq (ak ae) (next:=λ_ _ x (vx:Value) hx=>?_);refine go ?_;refine bq (ak ae) (next:=λ_ _ y (vy:Value) hy=>?_);refine go ?_;refine ax (uH (xs:=x) (ys:=y) (hl x (aP hx))) (next:=λ_ _=>?_);exact cA
 exact cH
theorem UG(hal:xs.length<9223372036854775808)(hl:∀l∈xs,l.length<9223372036854775808):dL Tryz.prog 129 [va,vb] [ai (ak ae) va xs,ai (ak ae) vb ys] (.bool (decide (xs=ys))):=by
 refine aH _ (aN 129) λB w0=>?_;refine go ?_;refine ax (UF (xs:=xs) (ys:=ys) hal hl) (next:=λ_ _=>?_);refine go ?_;exact ah () (hv:=rfl) (hp:=trivial)
theorem aeB{xs ys:List (List (List Int))}(hal:xs.length<9223372036854775808)(hl:∀l∈xs,l.length<9223372036854775808/\∀m∈l,m.length<9223372036854775808):dL Tryz.prog 130 [va,vb,.func (.func 129) #[] #[]] [ai (ak (ak ae)) va xs,ai (ak (ak ae)) vb ys] (.bool (decide (xs=ys))):=by
 refine aH _ (aN 130) λB w0=>?_;refine go ?_;refine az rfl (λh1=>?_) (λh1=>?_)
 ·exact cW
 have hlen:xs.length=ys.length:=vj
 refine go ?_;refine aW (λk=>xs.length - k) (λk:Nat=>[(17,.int .i64 (k:Int))]) (λ_=>[]) (λ_=>[]) (λk=>k<=xs.length/\∀j,j<k->xs[j]? =ys[j]?) 0 ⟨vj,λj hj=>by omega⟩ (body:=?_);rintro k ⟨hkx,hsame⟩;refine go ?_;refine az rfl (λh2=>?_) (λh2=>?_)
 ·refine go ?_;refine bq (ak (ak ae)) (next:=λ_ _ x (vx:Value) hx=>?_);refine go ?_;refine bq (ak (ak ae)) (next:=λ_ _ y (vy:Value) hy=>?_);refine go ?_;refine ax (UG (xs:=x) (ys:=y) (hl x (aP hx)).1 (hl x (aP hx)).2) (next:=λ_ _=>?_);exact cA
 exact cH
theorem UH{xs ys:List ByteArray}(hal:xs.length<9223372036854775808):dL Tryz.prog 181 [va,vb] [ai bD va xs,ai bD vb ys] (.bool (decide (xs=ys))):=by
 refine aH _ (aN 181) λB w0=>?_;refine go ?_;refine az rfl (λh1=>?_) (λh1=>?_)
 ·exact cW
 have hlen:xs.length=ys.length:=vj
 refine go ?_;refine aW (λk=>xs.length - k) (λk:Nat=>[(13,.int .i64 (k:Int))]) (λ_=>[]) (λ_=>[]) (λk=>k<=xs.length/\∀j,j<k->xs[j]? =ys[j]?) 0 ⟨vj,λj hj=>by omega⟩ (body:=?_);rintro k ⟨hkx,hsame⟩;refine go ?_;refine az rfl (λh2=>?_) (λh2=>?_)
 ·refine go ?_;refine bq bD (next:=λ_ _ x (_:Unit) hx=>?_);refine go ?_;refine bq bD (next:=λ_ _ y (_:Unit) hy=>?_);refine go ?_;refine eO (p:=x=y) zp (λh3=>?_) (λh3=>?_)
  ·exact cR
  refine go ?_;refine aM (k+1) vj ⟨vj,λj hj=>?_⟩;by_cases e:j=k
  ·subst e;rw[hx,hy,h3]
  ·exact hsame j vj
 exact cH
theorem Nu(x y:lY):cellsE [.string x.name,.int .i64 x.value] [.string y.name,.int .i64 y.value]=decide (x=y):=by
 obtain⟨a,b⟩:=x;obtain⟨c,e⟩:=y;show(decide (a=c)&&(decide (b=e)&&true))=_;rw[Bool.and_true,<- Bool.decide_and];exact nS.2 ⟨λh=>by rw[h.1,h.2],λh=>by cases h;exact⟨rfl,rfl⟩⟩
abbrev Jf(x:iJ):List Value:=[.string x.name,.string x.on,.int .i64 x.family,.int .i64 x.type,.int .i64 x.lo,.int .i64 x.hi]
theorem Nv(x y:iJ):cellsE (Jf x) (Jf y)=decide (x=y):=by
 obtain⟨a1,a2,a3,a4,a5,a6⟩:=x;obtain⟨b1,b2,b3,b4,b5,b6⟩:=y;show(decide (a1=b1)&&(decide (a2=b2)&&(decide (a3=b3)&&(decide (a4=b4)&&(decide (a5=b5)&&(decide (a6=b6)&&true))))))=_;rw[Bool.and_true];simp only[<- Bool.decide_and];exact nS.2 ⟨λh=>by rw[h.1,h.2.1,h.2.2.1,h.2.2.2.1,h.2.2.2.2.1,h.2.2.2.2.2],λh=>by cases h;exact⟨rfl,rfl,rfl,rfl,rfl,rfl⟩⟩
theorem Nw:∃fs:Array Field,Tryz.prog.underlying 98=some (.struct fs)/\Ey Tryz.prog fs.toList 0 [false,true]=true:=by
 refine⟨Tryz.prog.fieldsOf 98,vA,vA⟩
theorem Ny:∃fs:Array Field,Tryz.prog.underlying 62=some (.struct fs)/\Ey Tryz.prog fs.toList 0 [false,false,true,true,true,true]=true:=by
 refine⟨Tryz.prog.fieldsOf 62,vA,vA⟩
theorem aeC{xs ys:List lY}(hal:xs.length<9223372036854775808):dL Tryz.prog 182 [va,vb] [ai eP va xs,ai eP vb ys] (.bool (decide (xs=ys))):=by
 obtain⟨fs,hu,hrow⟩:=Nw;refine aH _ (aN 182) λB w0=>?_;refine go ?_;refine az rfl (λh1=>?_) (λh1=>?_)
 ·exact cW
 have hlen:xs.length=ys.length:=vj
 refine go ?_;refine aW (λk=>xs.length - k) (λk:Nat=>[(13,.int .i64 (k:Int))]) (λ_=>[]) (λ_=>[]) (λk=>k<=xs.length/\∀j,j<k->xs[j]? =ys[j]?) 0 ⟨vj,λj hj=>by omega⟩ (body:=?_);rintro k ⟨hkx,hsame⟩;refine go ?_;refine az rfl (λh2=>?_) (λh2=>?_)
 ·refine go ?_;refine bq eP (next:=λ_ _ x (_:Unit) hx=>?_);refine go ?_;refine bq eP (next:=λ_ _ y (_:Unit) hy=>?_);refine go ?_;refine(fq (v:=.bool (!decide (x=y))) rfl rfl (by rw[<- Nu];exact Cc rfl rfl hu vA vA (row_of hrow rfl rfl (λj=>by rw[fC]) (λj=>by rw[fC])) BE BE)).h ?_;exact cA
 exact cH
theorem aeD{xs ys:List iJ}(hal:xs.length<9223372036854775808):dL Tryz.prog 184 [va,vb] [ai bP va xs,ai bP vb ys] (.bool (decide (xs=ys))):=by
 obtain⟨fs,hu,hrow⟩:=Ny;refine aH _ (aN 184) λB w0=>?_;refine go ?_;refine az rfl (λh1=>?_) (λh1=>?_)
 ·exact cW
 have hlen:xs.length=ys.length:=vj
 refine go ?_;refine aW (λk=>xs.length - k) (λk:Nat=>[(13,.int .i64 (k:Int))]) (λ_=>[]) (λ_=>[]) (λk=>k<=xs.length/\∀j,j<k->xs[j]? =ys[j]?) 0 ⟨vj,λj hj=>by omega⟩ (body:=?_);rintro k ⟨hkx,hsame⟩;refine go ?_;refine az rfl (λh2=>?_) (λh2=>?_)
 ·refine go ?_;refine bq bP (next:=λ_ _ x (_:Unit) hx=>?_);refine go ?_;refine bq bP (next:=λ_ _ y (_:Unit) hy=>?_);refine go ?_;refine(fq (v:=.bool (!decide (x=y))) rfl rfl (by rw[<- Nv];exact Cc rfl rfl hu vA vA (row_of hrow rfl rfl (λj=>by rw[fC]) (λj=>by rw[fC])) BE BE)).h ?_;exact cA
 exact cH
end Go.Proofs.YtfakljdleblkoaaGreat
namespace Go.Proofs.YtfakljdleblkoaaGreat
open Go.Ideal Kd
theorem aeE{x y:mH}{vx vy:Value}(hl:x.lists.length<9223372036854775808)(hll:∀l∈x.lists,l.length<9223372036854775808):dL Tryz.prog 178 [.agg ⟨[.string x.name,vx]⟩,.agg ⟨[.string y.name,vy]⟩] [ai (ak ae) vx x.lists,ai (ak ae) vy y.lists] (.bool (decide (x=y))):=by
 obtain⟨n1,l1⟩:=x;obtain⟨n2,l2⟩:=y;dsimp only at hl hll⊢;refine aH _ (aN 178) λB w0=>?_;refine go ?_;intro b2 b3;refine go ?_;refine gG (λh1=>?_) (λh1=>?_)
 ·rw[dY]at h1;refine go ?_;refine ah () (hv:=?_) (hp:=trivial);rw[aS (λe=>mV h1 AH)];rfl
 rw[dY]at h1;have h1:=gQ h1;refine go ?_;refine ax (UF (xs:=l1) (ys:=l2) hl hll) (next:=λ_ _=>?_);refine go ?_;refine ah () (hv:=?_) (hp:=trivial);rw[show decide (mH.mk n1 l1=mH.mk n2 l2)=decide (l1=l2)from nS.2 ⟨λh=>by cases h;rfl,λh=>by rw[h1,h]⟩];rfl
variable{u1 u2:Value}
theorem aeF{x y:bA}{v1 v2:Value}(hl:x.names.length<9223372036854775808)(hll:x.others.length<9223372036854775808):dL Tryz.prog 180 [.agg ⟨jI x v1 v2⟩,.agg ⟨jI y u1 u2⟩] [ai bD v1 x.names,ai bD v2 x.others,ai bD u1 y.names,ai bD u2 y.others] (.bool (decide (x=y))):=by
 obtain⟨n1,o1,k1,f1,vW,os1,s1,t1,p1,m1,y1,c1⟩:=x;obtain⟨n2,o2,k2,f2,Cw,os2,s2,t2,p2,m2,y2,c2⟩:=y;dsimp only[jI]at hl hll⊢;refine aH _ (aN 180) λB w0=>?_;refine go ?_;intro b2 b3;refine go ?_;refine ax (UH (xs:=vW) (ys:=Cw) hl) (next:=λ_ _=>?_);refine go ?_;refine gG (λh1=>?_) (λh1=>?_)
 ·exact lA
 refine go ?_;refine ax (UH (xs:=os1) (ys:=os2) hll) (next:=λ_ _=>?_);refine go ?_;refine gG (λh2=>?_) (λh2=>?_)
 ·exact lz
 refine go ?_;refine gG (λh3=>?_) (λh3=>?_)
 ·rw[dY]at h3;refine go ?_;refine ah () (hv:=?_) (hp:=trivial);rw[aS (λe=>mV h3 AH)];rfl
 rw[dY]at h3;have h3:=gQ h3;refine go ?_;refine gG (λh4=>?_) (λh4=>?_)
 ·rw[dY]at h4;refine go ?_;refine ah () (hv:=?_) (hp:=trivial);rw[aS (λe=>mV h4 AH)];rfl
 rw[dY]at h4;have h4:=gQ h4;refine go ?_;refine gG (λh5=>?_) (λh5=>?_)
 ·rw[dY]at h5;refine go ?_;refine ah () (hv:=?_) (hp:=trivial);rw[aS (λe=>mV h5 AH)];rfl
 rw[dY]at h5;have h5:=gQ h5;refine go ?_;refine(fq (v:=.bool (decide ([k1,f1,s1,t1,p1,m1,c1]=[k2,f2,s2,t2,p2,m2,c2]))) rfl rfl (acs (n:=7) (e:=3) rfl rfl vA vA vA rfl rfl vA)).h ?_;refine go ?_;refine ah () (hv:=?_) (hp:=trivial);rw[show decide (bA.mk n1 o1 k1 f1 vW os1 s1 t1 p1 m1 y1 c1=bA.mk n2 o2 k2 f2 Cw os2 s2 t2 p2 m2 y2 c2)=decide ([k1,f1,s1,t1,p1,m1,c1]=[k2,f2,s2,t2,p2,m2,c2])from nS.2 ⟨λh=>by cases h;rfl,λh=>by cases h;rw[h1,h2,h3,h4,h5]⟩];rfl
variable{va vb:Value}
theorem aeG{xs ys:List mH}(hal:xs.length<9223372036854775808)(hl:∀r∈xs,r.lists.length<9223372036854775808/\∀l∈r.lists,l.length<9223372036854775808):dL Tryz.prog 183 [va,vb,.func (.func 178) #[] #[]] [ai eZ va xs,ai eZ vb ys] (.bool (decide (xs=ys))):=by
 refine aH _ (aN 183) λB w0=>?_;refine go ?_;refine az rfl (λh1=>?_) (λh1=>?_)
 ·exact cW
 have hlen:xs.length=ys.length:=vj
 refine go ?_;refine aW (λk=>xs.length - k) (λk:Nat=>[(17,.int .i64 (k:Int))]) (λ_=>[]) (λ_=>[]) (λk=>k<=xs.length/\∀j,j<k->xs[j]? =ys[j]?) 0 ⟨vj,λj hj=>by omega⟩ (body:=?_);rintro k ⟨hkx,hsame⟩;refine go ?_;refine az rfl (λh2=>?_) (λh2=>?_)
 ·refine go ?_;refine bq eZ (next:=λ_ _ x (vx:Value) hx=>?_);refine go ?_;intro b8;refine go ?_;refine bq eZ (next:=λ_ _ y (vy:Value) hy=>?_);refine go ?_;intro b9;refine go ?_;refine ax (aeE (x:=x) (y:=y) (vx:=vx) (vy:=vy) (hl x (aP hx)).1 (hl x (aP hx)).2) (next:=λ_ _=>?_);exact cA
 exact cH
theorem aeH{xs ys:List bA}(hal:xs.length<9223372036854775808)(hl:∀r∈xs,r.names.length<9223372036854775808/\r.others.length<9223372036854775808):dL Tryz.prog 185 [va,vb,.func (.func 180) #[] #[]] [ai aY va xs,ai aY vb ys] (.bool (decide (xs=ys))):=by
 refine aH _ (aN 185) λB w0=>?_;refine go ?_;refine az rfl (λh1=>?_) (λh1=>?_)
 ·exact cW
 have hlen:xs.length=ys.length:=vj
 refine go ?_;refine aW (λk=>xs.length - k) (λk:Nat=>[(17,.int .i64 (k:Int))]) (λ_=>[]) (λ_=>[]) (λk=>k<=xs.length/\∀j,j<k->xs[j]? =ys[j]?) 0 ⟨vj,λj hj=>by omega⟩ (body:=?_);rintro k ⟨hkx,hsame⟩;refine go ?_;refine az rfl (λh2=>?_) (λh2=>?_)
 ·refine go ?_;refine bq aY (next:=λ_ _ x (vx:Value×Value) hx=>?_);refine go ?_;intro b8;refine go ?_;refine bq aY (next:=λ_ _ y (vy:Value×Value) hy=>?_);refine go ?_;intro b9;refine go ?_;refine ax (aeF (x:=x) (y:=y) (v1:=vx.1) (v2:=vx.2) (u1:=vy.1) (u2:=vy.2) (hl x (aP hx)).1 (hl x (aP hx)).2) (next:=λ_ _=>?_);exact cA
 exact cH
theorem UI{x y:bE}{h1 s1 r1 c1 h2 s2 r2 c2:Value}(hS:mM x):dL Tryz.prog 128 [.agg ⟨gu x h1 s1 r1 c1 u1⟩,.agg ⟨gu y h2 s2 r2 c2 u2⟩] (lZ x h1 s1 r1 c1 u1++lZ y h2 s2 r2 c2 u2) (.bool (decide (x=y))):=by
 have e1:=hS.dJ;have e2:=hS.regs;have e3:=hS.jR;have e4:=hS.lQ;have e5:=hS.vT;have e6:=hS.holes;have e7:=hS.vU;clear hS;obtain⟨n1,v1,p1,w1,g1,ho1,mO,l8,mP,l9⟩:=x;obtain⟨n2,v2,p2,w2,g2,ho2,qA,pR,qB,pU⟩:=y;dsimp only at e1 e2 e3 e4 e5 e6 e7;dsimp only[gu,lZ,List.cons_append,List.nil_append];refine aH _ (aN 128) λB w0=>?_;refine go ?_;intro b2 b3;refine go ?_;refine gG (λk1=>?_) (λk1=>?_)
 ·rw[dY]at k1;refine go ?_;refine ah () (hv:=?_) (hp:=trivial);rw[aS (λe=>mV k1 AH)];rfl
 rw[dY]at k1;have k1:=gQ k1;refine go ?_;refine gG (λk2=>?_) (λk2=>?_)
 ·exact eR
 refine go ?_;refine gG (λk3=>?_) (λk3=>?_)
 ·exact eN
 refine go ?_;refine gG (λk4=>?_) (λk4=>?_)
 ·exact eM
 refine go ?_;refine gG (λk5=>?_) (λk5=>?_)
 ·exact gf
 refine go ?_;refine ax (uH (xs:=ho1) (ys:=ho2) e6) (next:=λ_ _=>?_);refine go ?_;refine gG (λk6=>?_) (λk6=>?_)
 ·exact eK
 refine go ?_;refine ax (aeC (xs:=mO) (ys:=qA) vj) (next:=λ_ _=>?_);refine go ?_;refine gG (λk7=>?_) (λk7=>?_)
 ·exact eJ
 refine go ?_;refine ax (aeG (xs:=l8) (ys:=pR) vj e7) (next:=λ_ _=>?_);refine go ?_;refine gG (λk8=>?_) (λk8=>?_)
 ·exact lj
 refine go ?_;refine ax (aeD (xs:=mP) (ys:=qB) vj) (next:=λ_ _=>?_);refine go ?_;refine gG (λk9=>?_) (λk9=>?_)
 ·exact li
 refine go ?_;refine ax (aeH (xs:=l9) (ys:=pU) vj e5) (next:=λ_ _=>?_);refine go ?_;refine ah () (hv:=?_) (hp:=trivial);rw[show decide (bE.mk n1 v1 p1 w1 g1 ho1 mO l8 mP l9=bE.mk n2 v2 p2 w2 g2 ho2 qA pR qB pU)=decide (l9=pU)from nS.2 ⟨λh=>by cases h;rfl,λh=>by rw[k1,k2,k3,k4,k5,k6,k7,k8,k9,h]⟩];rfl
