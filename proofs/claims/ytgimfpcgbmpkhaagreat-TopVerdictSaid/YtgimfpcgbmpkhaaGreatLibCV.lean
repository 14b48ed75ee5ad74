/- Part. -/
import Derived.Laws.Strings
import Derived.Test.YtgimfpcgbmpkhaaGreatLibAV
set_option linter.all false
set_option maxRecDepth 10000
set_option maxHeartbeats 4000000
namespace Go.Proofs.YtgimfpcgbmpkhaaGreat
open Tryz (prog)
open Go.Ideal Kd
noncomputable def abQ:iJ:=⟨2,[(.tmp 0)],(.seq (kO [kS 0 (.jC (.const vS))]) (.seq (kO [⟨⟨(some 1),none,(.Ah 9 8 [vE,vE,vE,vE,vE,vE,vE,vE] [⟨0,⟨1,(.const (.string ⟨⟨[99,101,108,108,115]⟩⟩))⟩⟩,⟨1,⟨1,(.const (.string ⟨⟨[114,111,119,115]⟩⟩))⟩⟩,⟨2,⟨1,(.const (.string ⟨⟨[99,111,108,117,109,110,115]⟩⟩))⟩⟩,⟨3,⟨1,(.const (.string ⟨⟨[100,105,97,103,111,110,97,108,115]⟩⟩))⟩⟩,⟨4,⟨1,(.const (.string ⟨⟨[97,114,111,117,110,100]⟩⟩))⟩⟩,⟨5,⟨1,(.const (.string ⟨⟨[110,101,97,114]⟩⟩))⟩⟩,⟨6,⟨1,(.const (.string ⟨⟨[112,97,105,114,115]⟩⟩))⟩⟩,⟨7,⟨1,(.const (.string ⟨⟨[97,108,108]⟩⟩))⟩⟩])⟩,[]⟩,kS 0 (.jC 1)]) .ret))⟩
def am0:enF prog 276=some abQ:=oB
abbrev jd:ByteArray->ah:=λs=>.string s
def wD:rY prog 9 jd:=ajF oB
abbrev sw(e:Int):ae PanicEntry:=[{v:=.iface 39 (iV e),recovered:=false}]
def abR{x:nQ}:dO prog 272 [.agg ⟨[.string x.name,iV x.value]⟩] [] (.string x.name):=by
 refine gB 272 λB w0=>?_;refine go ?_;intro b;exact dH
def abS{x:Reg}{v:ah}:dO prog 274 [.agg ⟨[.string x.name,v]⟩] [] (.string x.name):=by
 refine gB 274 λB w0=>?_;refine go ?_;intro b;exact dH
def abT{x:jA}:dO prog 279 [.agg ⟨[.string x.name,.string x.on,iV x.family,iV x.type,iV x.lo,iV x.hi]⟩] [] (.string x.name):=by
 refine gB 279 λB w0=>?_;refine go ?_;intro b;exact dH
def abU{x:bF}{v1 v2:ah}:dO prog 283 [.agg ⟨jf x v1 v2⟩] [] (.string x.name):=by
 refine gB 283 λB w0=>?_;refine go ?_;intro b;exact dH
def abV{s:ByteArray}:dO prog 277 [.string s] [] (.string s):=by
 refine gB 277 λB w0=>?_;exact dH
def KS{P:Program}{B:ae Nat}{w0:Wd}{kl kl':ae OA}{F:ae aI}{K:KO}{ds:ae Tmp}{rest:ae aS}{n:Nat}{l:qr}{D:ae Deferred}{pm:az FrameMode}{ro:az Nat}{d:Nat}{g:az (Tmp×Bool)}
 {α:Type} [DecidableEq α] {bH:α->ah} {kt:aM} {zero:ah} {m k:aB} {b:Nat} {aC:ae (α×ah)} (hk:rY P kt bH) (a:α)
 (hit:∀v,dM a aC=some v->a∈aC.map (·.1)->R (λh=>aO P ds rest (act n ((d,.tuple ⟨[v,.bool true]⟩)::l) D pm ro) h K) B w0 kl F)
 (miss:a∉aC.map (·.1)->R (λh=>aO P ds rest (act n ((d,.tuple ⟨[zero,.bool false]⟩)::l) D pm ro) h K) B w0 kl F)
 (hm:ev l m=.map (some b):=by rfl) (ha:ev l k=bH a:=by conv=>lhs;whnf) (hs:aD (ic bH b aC) kl kl':=by exact dG) (hn:Nat.blt d n=true:=by rfl) (hg:bJ l g=true:=by rfl):
 R (λh=>aO P ds (⟨⟨some d,g,.lookup kt zero m k true⟩,[]⟩::rest) (act n l D pm ro) h K) B w0 kl F:=by
 refine EI (ok:=true) hk a ?_ hm ha hs hn hg;by_cases h:a∈aC.map (·.1)
 .exact gb
 .exact hU
variable{aC:ae (ByteArray×ah)}{start:Nat}
def tV{α:Type}{xs:ae α}{nm:α->ByteArray}{k:Nat}{x:α}(hx:xs[k]? =some x):
 (aC++gz ((xs.take k).map nm) start).map (·.1)=aC.map (·.1)++(xs.take k).map nm/\gz ((xs.take (k+1)).map nm) start=gz ((xs.take k).map nm) start++[(nm x,iV ((start:Int)+(k:Int)))]:=by
 have hk:=(bz.1 hx).1;refine⟨by rw[bZ,xC],?_⟩;rw[rP,hx,bZ,TN];congr 1;rw[bi,gW,Ae ov];simp[gz]
variable{b:Nat}{vs:ah}
def am1{xs:ae ByteArray}(hl:xs.length<=4096)(hs:start<=4096)(hnd:(aC.map (·.1)).Nodup):
 rX prog (.func 275) [vs,iV (start:Int),.func (.func 277) #[] #[],.map (some b)] [] [ic jd b aC] [ay ko vs xs] (λy:Bool×ae ByteArray=>if y.1=true then .ok (.map (some b))else .iy (sw 161))
  (λy=>[ic jd b (aC++gz y.2 start)]) (λ_=>[]) (λy=>(y.1=true->y.2=xs/\(aC.map (·.1)++xs).Nodup)/\(y.1=false->¬(aC.map (·.1)++xs).Nodup)):=by
 let nm:ByteArray->ByteArray:=λs=>s
 have hmap:∀l:ae ByteArray,l.map nm=l:=λl=>List.map_id' l;suffices h:rX prog (.func 275) [vs,iV (start:Int),.func (.func 277) #[] #[],.map (some b)] [] [ic jd b aC] [ay ko vs xs] (λy:Bool×ae ByteArray=>if y.1=true then .ok (.map (some b))else .iy (sw 161))
  (λy=>[ic jd b (aC++gz y.2 start)]) (λ_=>[]) (λy=>(y.1=true->y.2=(xs.map nm)/\(aC.map (·.1)++xs.map nm).Nodup)/\(y.1=false->¬(aC.map (·.1)++xs.map nm).Nodup))by
  rw[hmap]at h;exact h
 refine zH _ (pY 275) λB w0=>?_;refine go ?_;rw[show ic jd b aC=ic jd b (aC++gz ((xs.take 0).map nm) start)by simp[gz]];refine dL (λk=>xs.length - k) (λk:Nat=>[(15,iV (k:Int))]) (λk=>[ic jd b (aC++gz ((xs.take k).map nm) start)]) (λ_=>[]) (λk=>k<=xs.length/\(aC.map (·.1)++(xs.take k).map nm).Nodup) 0 ⟨bI _,qg⟩ (body:=?_);rintro k ⟨hk,hall⟩;refine aK ?_ ?_<;>intro h1
 .refine gX ko λ_ _ x (y:Unit) hx=>?_;refine gC (abV (s:=x)) λ_ _=>?_;refine go ?_;refine KS wD (nm x) (λv hv hm=>?_) (λhm=>?_)
  .exact bt
  refine gC (abV (s:=x)) λ_ _=>?_;refine go ?_;refine vX wD (nm x) (aC:=aC++gz ((xs.take k).map nm) start) (v:=iV ((start:Int)+(k:Int))) ?_;have hm2:=hm;rw[(tV hx).1]at hm2;rw[G6 hm,gp,<- (tV (aC:=aC) hx).2];refine go ?_;refine aW (k+1) ov ⟨ov,?_⟩;rw[rP,hx,bZ,<- gp,j5];refine⟨hall,ox,λa ha c hc=>?_⟩;have:c=nm x:=qj
  exact fL
 have hkl:k=xs.length:=ov
 subst hkl;rw[dK]at hall;rw[dK];refine go ?_;exact CJ (true,xs.map nm) (hv:=rfl) (hp:=⟨λ_=>⟨rfl,hall⟩,λh=>by cases h⟩)
def am2{xs:ae nQ}(hl:xs.length<=4096)(hs:start<=4096)(hnd:(aC.map (·.1)).Nodup):
 rX prog (.func 271) [vs,iV (start:Int),.func (.func 272) #[] #[],.map (some b)] [] [ic jd b aC] [ay jO vs xs] (λy:Bool×ae ByteArray=>if y.1=true then .ok (.map (some b))else .iy (sw 161))
  (λy=>[ic jd b (aC++gz y.2 start)]) (λ_=>[]) (λy=>(y.1=true->y.2=(xs.map nQ.name)/\(aC.map (·.1)++xs.map nQ.name).Nodup)/\(y.1=false->¬(aC.map (·.1)++xs.map nQ.name).Nodup)):=by
 let nm:nQ->ByteArray:=nQ.name
 refine zH _ (pY 271) λB w0=>?_;refine go ?_;rw[show ic jd b aC=ic jd b (aC++gz ((xs.take 0).map nm) start)by simp[gz]];refine dL (λk=>xs.length - k) (λk:Nat=>[(15,iV (k:Int))]) (λk=>[ic jd b (aC++gz ((xs.take k).map nm) start)]) (λ_=>[]) (λk=>k<=xs.length/\(aC.map (·.1)++(xs.take k).map nm).Nodup) 0 ⟨bI _,qg⟩ (body:=?_);rintro k ⟨hk,hall⟩;refine aK ?_ ?_<;>intro h1
 .refine gX jO λ_ _ x y hx=>?_;refine go ?_;intro b10;refine gC (abR (x:=x)) λ_ _=>?_;refine go ?_;refine KS wD (nm x) (λv hv hm=>?_) (λhm=>?_)
  .exact bt
  refine gC (abR (x:=x)) λ_ _=>?_;refine go ?_;refine vX wD (nm x) (aC:=aC++gz ((xs.take k).map nm) start) (v:=iV ((start:Int)+(k:Int))) ?_;have hm2:=hm;rw[(tV hx).1]at hm2;rw[G6 hm,gp,<- (tV (aC:=aC) hx).2];refine go ?_;refine aW (k+1) ov ⟨ov,?_⟩;rw[rP,hx,bZ,<- gp,j5];refine⟨hall,ox,λa ha c hc=>?_⟩;have:c=nm x:=qj
  exact fL
 have hkl:k=xs.length:=ov
 subst hkl;rw[dK]at hall;rw[dK];refine go ?_;exact CJ (true,xs.map nm) (hv:=rfl) (hp:=⟨λ_=>⟨rfl,hall⟩,λh=>by cases h⟩)
def am3{xs:ae Reg}(hl:xs.length<=4096)(hs:start<=4096)(hnd:(aC.map (·.1)).Nodup):
 rX prog (.func 273) [vs,iV (start:Int),.func (.func 274) #[] #[],.map (some b)] [] [ic jd b aC] [ay lJ vs xs] (λy:Bool×ae ByteArray=>if y.1=true then .ok (.map (some b))else .iy (sw 161))
  (λy=>[ic jd b (aC++gz y.2 start)]) (λ_=>[]) (λy=>(y.1=true->y.2=(xs.map Reg.name)/\(aC.map (·.1)++xs.map Reg.name).Nodup)/\(y.1=false->¬(aC.map (·.1)++xs.map Reg.name).Nodup)):=by
 let nm:Reg->ByteArray:=Reg.name
 refine zH _ (pY 273) λB w0=>?_;refine go ?_;rw[show ic jd b aC=ic jd b (aC++gz ((xs.take 0).map nm) start)by simp[gz]];refine dL (λk=>xs.length - k) (λk:Nat=>[(15,iV (k:Int))]) (λk=>[ic jd b (aC++gz ((xs.take k).map nm) start)]) (λ_=>[]) (λk=>k<=xs.length/\(aC.map (·.1)++(xs.take k).map nm).Nodup) 0 ⟨bI _,qg⟩ (body:=?_);rintro k ⟨hk,hall⟩;refine aK ?_ ?_<;>intro h1
 .refine gX lJ λ_ _ x y hx=>?_;refine go ?_;intro b10;refine gC (abS (x:=x) (v:=y)) λ_ _=>?_;refine go ?_;refine KS wD (nm x) (λv hv hm=>?_) (λhm=>?_)
  .exact bt
  refine gC (abS (x:=x) (v:=y)) λ_ _=>?_;refine go ?_;refine vX wD (nm x) (aC:=aC++gz ((xs.take k).map nm) start) (v:=iV ((start:Int)+(k:Int))) ?_;have hm2:=hm;rw[(tV hx).1]at hm2;rw[G6 hm,gp,<- (tV (aC:=aC) hx).2];refine go ?_;refine aW (k+1) ov ⟨ov,?_⟩;rw[rP,hx,bZ,<- gp,j5];refine⟨hall,ox,λa ha c hc=>?_⟩;have:c=nm x:=qj
  exact fL
 have hkl:k=xs.length:=ov
 subst hkl;rw[dK]at hall;rw[dK];refine go ?_;exact CJ (true,xs.map nm) (hv:=rfl) (hp:=⟨λ_=>⟨rfl,hall⟩,λh=>by cases h⟩)
def am4{xs:ae jA}(hl:xs.length<=4096)(hs:start<=4096)(hnd:(aC.map (·.1)).Nodup):
 rX prog (.func 278) [vs,iV (start:Int),.func (.func 279) #[] #[],.map (some b)] [] [ic jd b aC] [ay eP vs xs] (λy:Bool×ae ByteArray=>if y.1=true then .ok (.map (some b))else .iy (sw 161))
  (λy=>[ic jd b (aC++gz y.2 start)]) (λ_=>[]) (λy=>(y.1=true->y.2=(xs.map jA.name)/\(aC.map (·.1)++xs.map jA.name).Nodup)/\(y.1=false->¬(aC.map (·.1)++xs.map jA.name).Nodup)):=by
 let nm:jA->ByteArray:=jA.name
 refine zH _ (pY 278) λB w0=>?_;refine go ?_;rw[show ic jd b aC=ic jd b (aC++gz ((xs.take 0).map nm) start)by simp[gz]];refine dL (λk=>xs.length - k) (λk:Nat=>[(15,iV (k:Int))]) (λk=>[ic jd b (aC++gz ((xs.take k).map nm) start)]) (λ_=>[]) (λk=>k<=xs.length/\(aC.map (·.1)++(xs.take k).map nm).Nodup) 0 ⟨bI _,qg⟩ (body:=?_);rintro k ⟨hk,hall⟩;refine aK ?_ ?_<;>intro h1
 .refine gX eP λ_ _ x y hx=>?_;refine go ?_;intro b10;refine gC (abT (x:=x)) λ_ _=>?_;refine go ?_;refine KS wD (nm x) (λv hv hm=>?_) (λhm=>?_)
  .exact bt
  refine gC (abT (x:=x)) λ_ _=>?_;refine go ?_;refine vX wD (nm x) (aC:=aC++gz ((xs.take k).map nm) start) (v:=iV ((start:Int)+(k:Int))) ?_;have hm2:=hm;rw[(tV hx).1]at hm2;rw[G6 hm,gp,<- (tV (aC:=aC) hx).2];refine go ?_;refine aW (k+1) ov ⟨ov,?_⟩;rw[rP,hx,bZ,<- gp,j5];refine⟨hall,ox,λa ha c hc=>?_⟩;have:c=nm x:=qj
  exact fL
 have hkl:k=xs.length:=ov
 subst hkl;rw[dK]at hall;rw[dK];refine go ?_;exact CJ (true,xs.map nm) (hv:=rfl) (hp:=⟨λ_=>⟨rfl,hall⟩,λh=>by cases h⟩)
def am5{xs:ae bF}(hl:xs.length<=4096)(hs:start<=4096)(hnd:(aC.map (·.1)).Nodup):
 rX prog (.func 282) [vs,iV (start:Int),.func (.func 283) #[] #[],.map (some b)] [] [ic jd b aC] [ay di vs xs] (λy:Bool×ae ByteArray=>if y.1=true then .ok (.map (some b))else .iy (sw 161))
  (λy=>[ic jd b (aC++gz y.2 start)]) (λ_=>[]) (λy=>(y.1=true->y.2=(xs.map bF.name)/\(aC.map (·.1)++xs.map bF.name).Nodup)/\(y.1=false->¬(aC.map (·.1)++xs.map bF.name).Nodup)):=by
 let nm:bF->ByteArray:=bF.name
 refine zH _ (pY 282) λB w0=>?_;refine go ?_;rw[show ic jd b aC=ic jd b (aC++gz ((xs.take 0).map nm) start)by simp[gz]];refine dL (λk=>xs.length - k) (λk:Nat=>[(15,iV (k:Int))]) (λk=>[ic jd b (aC++gz ((xs.take k).map nm) start)]) (λ_=>[]) (λk=>k<=xs.length/\(aC.map (·.1)++(xs.take k).map nm).Nodup) 0 ⟨bI _,qg⟩ (body:=?_);rintro k ⟨hk,hall⟩;refine aK ?_ ?_<;>intro h1
 .refine gX di λ_ _ x y hx=>?_;refine go ?_;intro b10;refine gC (abU (x:=x) (v1:=y.1) (v2:=y.2)) λ_ _=>?_;refine go ?_;refine KS wD (nm x) (λv hv hm=>?_) (λhm=>?_)
  .exact bt
  refine gC (abU (x:=x) (v1:=y.1) (v2:=y.2)) λ_ _=>?_;refine go ?_;refine vX wD (nm x) (aC:=aC++gz ((xs.take k).map nm) start) (v:=iV ((start:Int)+(k:Int))) ?_;have hm2:=hm;rw[(tV hx).1]at hm2;rw[G6 hm,gp,<- (tV (aC:=aC) hx).2];refine go ?_;refine aW (k+1) ov ⟨ov,?_⟩;rw[rP,hx,bZ,<- gp,j5];refine⟨hall,ox,λa ha c hc=>?_⟩;have:c=nm x:=qj
  exact fL
 have hkl:k=xs.length:=ov
 subst hkl;rw[dK]at hall;rw[dK];refine go ?_;exact CJ (true,xs.map nm) (hv:=rfl) (hp:=⟨λ_=>⟨rfl,hall⟩,λh=>by cases h⟩)
end Go.Proofs.YtgimfpcgbmpkhaaGreat
namespace Go.Proofs.YtgimfpcgbmpkhaaGreat
open Tryz (prog)
open Go.Ideal Kd
noncomputable def UL:iJ:=⟨9,[],(.seq (kO [⟨⟨(some 3),none,.recover⟩,[]⟩,kS 2 (.jC 3)]) (.seq (kO [kM 4 2,kS 5 (.bin .neq 20 4 (.const .nilIface))]) (.cond 5 (kO [⟨⟨(some 6),none,(.build [vE,(iV 0),(iV 0),(iV 0),(iV 0),vS,vS,vS,vS,vS] [])⟩,[]⟩,kM 7 2,kS 8 (.Mr 39 (iV 0) false 7),kN (.store 10 0 6),kN (.store 1 1 8)]) .skip)))⟩
def abW:enF prog 270=some UL:=oB
section
variable {P:Program} {B:ae Nat} {w0:Wd} {kl kl':ae OA} {F:ae aI} {K:KO} {ds:ae Tmp} {rest:ae aS} {n:Nat} {l:qr} {D:ae Deferred} {pm:az FrameMode} {ro:az Nat} {d:Nat} {g:az (Tmp×Bool)}
variable{α:Type}
def abX[DecidableEq α]{bH:α->ah}{kt:aM}{zero:ah}{m k:aB}{b:Nat}{aC:ae (α×ah)}(hk:rY P kt bH)(a:α)
 (hit:∀v,dM a aC=some v->a∈aC.map (·.1)->R (λh=>aO P ds rest (act n ((d,.tuple ⟨[v,.bool true]⟩)::l) D pm ro) h K) B w0 kl F)
 (miss:a∉aC.map (·.1)->R (λh=>aO P ds rest (act n ((d,.tuple ⟨[zero,.bool false]⟩)::l) D pm ro) h K) B w0 kl F)
 (hm:ev l m=.map (some b):=by rfl) (ha:ev l k=bH a:=by conv=>lhs;whnf) (hf:AV bH b aC∈F:=by exact iN) (hn:Nat.blt d n=true:=by rfl) (hg:bJ l g=true:=by rfl):
 R (λh=>aO P ds (⟨⟨some d,g,.lookup kt zero m k true⟩,[]⟩::rest) (act n l D pm ro) h K) B w0 kl F:=by
 refine Tk (ok:=true) hk a ?_ hm ha hf hn hg;by_cases h:a∈aC.map (·.1)
 .exact gb
 .exact hU
def UM(E:Enc α){v:ah}{aF:ae (α×E.Y)}{Q:IH->Prop}(h0:aF=[]->∀c,v=.slice none 0 c->R Q B w0 kl F)(h1:aF=[]->∀i o f c,v=.slice (some ⟨i,o,some f⟩) 0 c->R Q B w0 kl F)
 (h2:0<aF.length->∀i o f c,v=.slice (some ⟨i,o,some f⟩) aF.length c->R Q B w0 kl F) (hf:vY E v aF∈F:=by exact iN):R Q B w0 kl F:=λw s=>by
 rcases s.facts _ hf with⟨e,a,c,hv,hg⟩|⟨i,o,f,c,cells,⟨hv,_⟩,_⟩
 .match a,hv,hg with
  |none,hv,_=>exact h0 e c hv w s
  |some ⟨i,o,some f⟩,hv,_=>exact h1 e i o f c hv w s
 .by_cases hx:aF=[]
  .subst hx;exact h1 rfl i o f c hv w s
  .exact h2 (WZ.2 hx) i o f c hv w s
def UN(E:Enc α){Q:IH->Prop}(h:R Q B w0 (ar E (.slice none 0 0) []::kl) F):R Q B w0 kl F:=λw s=>by
 obtain⟨S,h1,h2,h3⟩:=s.own;exact h w ⟨s.agree,s.le,s.fF,⟨S,⟨[],S,.inl ⟨rfl,⟨none,rfl,trivial⟩,rfl⟩,h1,rfl⟩,h2,h3⟩,s.facts⟩
end
def am6:aY prog (.func 276) [] [] [] [] (λv:ah=>v) (λ_=>[]) (λv=>[ay ko v EM]) (λ_=>True):=by
 refine l7 abQ am0 λB w0=>?_;refine go ?_;intro b;refine go ?_;refine xz (b:=b) (m:=8) (f:=0) ko (aF:=EM.map λs=>(s,())) rfl (.inl rfl) ?_ (hk:=aD.here);refine Oy (E:=ko) ?_ (λw hw p hp f hf=>by cases hf);exact gQ (.slice (some ⟨b,0,some 0⟩) 8 8) trivial (hF:=.cons (fP _ (eX ..)) .nil)
variable{s:ByteArray}
def PI{b:Nat}{aC:ae (ByteArray×ah)}:
 rX prog (.func 281) [.map (some b),.string s] [] [] [AV jd b aC] (λy:az ah=>match y with|some v=>.ok v|none=>.iy (sw 160)) (λ_=>[]) (λ_=>[]) (λy=>y=dM s aC):=by
 refine zH _ (pY 281) λB w0=>?_;refine go ?_;refine abX wD s (λv hv hm=>?_) (λhm=>?_)
 .refine go ?_;exact CJ (some v) (hv:=rfl) (hp:=hv.symm)
 .refine go ?_;refine ED ?_;refine go ?_;exact CK none (hv:=rfl) (hp:=(wm hm).symm)
variable{eH l:ae ByteArray}
def am7{k:Nat}(h:l[k]? =some s):kI eH (l.take (k+1))=kI eH (l.take k)|||1<<<jY s eH:=by
 unfold kI;rw[rP,h,vJ];rfl
def abY{eH:ae ByteArray}(hs:eH.length<=16):∀(l:ae ByteArray) (m:Nat),(∀s∈l,s∈eH)->m<65536->l.foldl (λm s=>m|||1<<<jY s eH) m<65536
 |[],m,_,hm=>hm
 |s::l,m,h,hm=>by
  rw[vI];refine abY hs l _ (λx hx=>h x (fP _ hx)) ?_;have h1:=CU (h s (eX ..));have h2:1<<<jY s eH<2^16:=by
   rw[aoz,BS];exact Mk ov ov
  exact QI (n:=16) hm h2
def abZ{b4 bs:Nat}{vl:ah}(hs:eH.length<=16)(hl:l.length<2^63):
 rX prog (.func 285) [vl] [ptr' b4] [] [aX b4 0 [.map (some bs)],AV jd bs (gz eH 0),ay ko vl l] (λy:Bool=>if y=true then .ok (iV (kI eH l:Int))else .iy (sw 160)) (λ_=>[]) (λ_=>[])
  (λy=>(y=true->∀s∈l,s∈eH)/\(y=false->¬∀s∈l,s∈eH)):=by
 refine zH _ (pY 285) λB w0=>?_;refine gL (λk=>l.length - k) (λk:Nat=>[(8,iV (k:Int)),(3,iV (kI eH (l.take k):Int))]) (λk=>k<=l.length/\∀s∈l.take k,s∈eH) 0 ⟨bI _,ox⟩ ?_;rintro k ⟨hk,hall⟩;refine aK ?_ ?_<;>intro h1
 .refine gX ko λ_ _ x (y:Unit) hx=>?_;refine go ?_;refine vW (PI (b:=bs) (s:=x) (aC:=gz eH 0)) (λy v hy e=>?_) (λy ch hy e=>?_)
  .have hm:x∈eH:=by
    by_cases h:x∈eH
    .exact h
    .exact fN
   rw[Bb hm]at hy;subst hy;injection e with e;subst e;have hp:=CU hm;have h2:1<<<jY x eH<2^16:=by
    rw[aoz,BS];exact Mk ov ov
   have h3:=abY hs (l.take k) 0 hall ov;rw[gq];refine(dx rfl rfl (SS (a:=1) (b:=jY x eH) rfl rfl ov ov)).h ?_;refine(dx rfl rfl (Zg (a:=kI eH (l.take k)) (b:=1<<<jY x eH) rfl rfl (Nat.lt_trans h3 ov) ov)).h ?_;refine go ?_;refine aW (k+1) ov ⟨ov,λs hs'=>?_⟩ (hl:=⟨rfl,by rw[am7 hx];rfl,oV⟩);rw[rP,hx]at hs';rcases fU.1 hs' with h|h
   .exact hall s h
   .have:s=x:=by simpa using h
    rw[this];exact hm
  .refine go ?_;have hm:x∉eH:=by
    exact i6
   have hch:ch=sw 160:=by
    rw[wm rF]at hy;subst hy;injection e with e;exact e.symm
   subst hch;exact CK false (hv:=rfl) (hp:=⟨(λh=>by cases h),λ_ h=>hm (h x (aV hx))⟩)
 have hkl:k=l.length:=ov
 subst hkl;rw[dK]at hall⊢;refine go ?_;exact CJ true (hv:=rfl) (hp:=⟨λ_=>hall,λh=>by cases h⟩)
variable{v:ah}
def am8{aF:ae (jA×eP.Y)}(hl:aF.length<=4096):aY prog (.func 280) [v] [] [] [vY eP v aF] (λv':ah=>v') (λv'=>[ar eP v' aF]) (λ_=>[]) (λ_=>True):=by
 refine gB 280 λB w0=>?_;refine UM (v:=v) (aF:=aF) eP (λe c ev=>?_) (λe i o f c ev=>?_) (λhne i o f c ev=>?_)
 .subst e ev;refine go ?_;refine(dx rfl rfl (GK (e:=147) oB rfl)).h ?_;refine go ?_;refine UN eP ?_;exact mz
 .subst e ev;refine go ?_;refine(dx rfl rfl (zK (e:=147) oB rfl)).h ?_;refine go ?_;intro b;refine go ?_;refine J7 (b:=b) ?_;refine go ?_;refine xz (b:=b) (m:=0) (f:=0) eP (aF:=[]) rfl (.inl rfl) ?_ (hk:=aD.here);exact iM
 .subst ev;refine go ?_;refine(dx rfl rfl (zK (e:=147) oB rfl)).h ?_;refine go ?_;intro b;refine go ?_;refine J8 (b:=b) eP aF hne ov (λb'=>?_);refine go ?_;refine xz (b:=b') (m:=aF.length) (f:=eP.n) eP (aF:=aF) rfl (.inr rfl) ?_ (hk:=aD.here);exact gQ (.slice (some ⟨b',0,some eP.n⟩) aF.length aF.length) trivial
def am9{aF:ae (bF×di.Y)}(hl:aF.length<=4096):aY prog (.func 284) [v] [] [] [vY di v aF] (λv':ah=>v') (λv'=>[ar di v' aF]) (λ_=>[]) (λ_=>True):=by
 refine gB 284 λB w0=>?_;refine UM (v:=v) (aF:=aF) di (λe c ev=>?_) (λe i o f c ev=>?_) (λhne i o f c ev=>?_)
 .subst e ev;refine go ?_;refine(dx rfl rfl (GK (e:=90) oB rfl)).h ?_;refine go ?_;refine UN di ?_;exact mz
 .subst e ev;refine go ?_;refine(dx rfl rfl (zK (e:=90) oB rfl)).h ?_;refine go ?_;intro b;refine go ?_;refine J7 (b:=b) ?_;refine go ?_;refine xz (b:=b) (m:=0) (f:=0) di (aF:=[]) rfl (.inl rfl) ?_ (hk:=aD.here);exact iM
 .subst ev;refine go ?_;refine(dx rfl rfl (zK (e:=90) oB rfl)).h ?_;refine go ?_;intro b;refine go ?_;refine J8 (b:=b) di aF hne ov (λb'=>?_);refine go ?_;refine xz (b:=b') (m:=aF.length) (f:=di.n) di (aF:=aF) rfl (.inr rfl) ?_ (hk:=aD.here);exact gQ (.slice (some ⟨b',0,some di.n⟩) aF.length aF.length) trivial
end Go.Proofs.YtgimfpcgbmpkhaaGreat
namespace Go.Proofs.YtgimfpcgbmpkhaaGreat
open Tryz (prog)
open Go.Ideal Kd
noncomputable def PK:iJ:=⟨128,[(.pX 10 2),(.cell1 3)],(.seq (kO [kS 1 (.box 0 28),⟨⟨(some 2),none,(.new [vE,(iV 0),(iV 0),(iV 0),(iV 0),vS,vS,vS,vS,vS] 28)⟩,[]⟩,kS 3 (.new [(iV 0)] 39)]) (.seq (kO [kS 11 (.D5 (.func 270) [] [2,3]),kN (.dcall 11 [])]) (.seq (.seq (kO [kS 12 (.iw 6 1),kS 13 (.fG 12),kS 14 (.pV 13),kS 15 (.bin .gtr 3 14 (.const (iV 16)))]) (.cond 15 (.seq (kO [kS 16 (.sO 10 2),kN (.store 10 2 16),kN (.store 1 3 (.const (iV 2)))]) .ret) .skip)) (.seq (kO [kS 17 (.iw 6 1),kS 18 (.fG 17),⟨⟨(some 19),none,.zl⟩,[]⟩,kS 20 (kC 271 [18,(.const (iV 0)),(.func 272),19]),kS 4 (.new [(.map none)] 309),kN (.store 1 4 20)]) (.seq (.ops [21,22,23,24,25,26,5] [kS 21 (.iw 7 1),kS 22 (.fG 21),⟨⟨(some 24),none,.zl⟩,[]⟩,⟨⟨(some 23),none,(kC 276 [])⟩,[⟨(some 22),none,(.fG 21)⟩]⟩,⟨⟨(some 25),none,(kC 275 [23,(.const (iV 0)),(.func 277),24])⟩,[⟨(some 22),none,(.fG 21)⟩]⟩,kS 26 (kC 273 [22,(.const (iV 8)),(.func 274),25]),kS 5 (.jC 26)]) (.seq (kO [kS 27 (.iw 8 1),kS 28 (.fG 27),⟨⟨(some 29),none,.zl⟩,[]⟩,kS 30 (kC 278 [28,(.const (iV 0)),(.func 279),29]),kS 6 (.jC 30)]) (.seq (kO [kS 31 (.iw 8 1),kS 32 (.fG 31),kS 33 (kC 280 [32]),kS 34 (.iw 8 1),kN (.store 1 34 33)]) (.seq (.seq (kO [kS 35 (.iw 8 1),kS 36 (.fG 35),kS 37 (.pV 36),kS 38 (.mv (.const (iV 0)))]) (.block 0 (.loop (.seq (kO [kS 39 (.bin .lss 3 38 37)]) (.seq (.cond 39 .skip (.exit 0)) (.seq (.block 1 (.seq (kO [kM 40 38,kS 7 (.jC 40)]) (.ops [41,42,43,44,45,46,47,48,49,50,51,52,53] [kS 41 (.iw 8 1),kS 42 (.fG 41),kM 43 7,kM 44 5,kS 45 (.iw 8 1),kS 46 (.fG 45),kM 47 7,kS 48 (.jw 6 46 47),kS 49 (.iw 1 48),kS 50 (.fG 49),⟨⟨(some 51),none,(kC 281 [44,50])⟩,[⟨(some 42),none,(.fG 41)⟩]⟩,kS 52 (.jw 6 42 43),kS 53 (.iw 2 52),kN (.store 1 53 51)]))) (kO [kS 54 (.bin .add 3 38 (.const (iV 1))),kM 38 54]))))))) (.seq (kO [kS 55 (.iw 9 1),kS 56 (.fG 55),⟨⟨(some 57),none,.zl⟩,[]⟩,kS 58 (kC 282 [56,(.const (iV 0)),(.func 283),57])]) (.seq (kO [kS 59 (.iw 9 1),kS 60 (.fG 59),kS 61 (kC 284 [60]),kS 62 (.iw 9 1),kN (.store 1 62 61)]) (.seq (kO [kS 63 (.D5 (.func 285) [] [4]),kS 8 (.jC 63)]) (.seq (.seq (kO [kS 64 (.iw 9 1),kS 65 (.fG 64),kS 66 (.pV 65),kS 67 (.mv (.const (iV 0)))]) (.block 2 (.loop (.seq (kO [kS 68 (.bin .lss 3 67 66)]) (.seq (.cond 68 .skip (.exit 2)) (.seq (.block 3 (.seq (kO [kM 69 67,kS 9 (.jC 69)]) (.seq (kO [kS 70 (.iw 9 1),kS 71 (.fG 70),kM 72 9,kS 73 (.jw 12 71 72),kS 10 (.jC 73)]) (.seq (kO [kM 74 10,kM 75 10,kS 76 (.nI 74),kS 77 (.iw 3 76),kN (.store 1 77 (.const (iV 0))),kS 78 (.nI 75),kS 79 (.iw 11 78),kN (.store 1 79 (.const (iV (-1))))]) (.seq (.seq (kO [kM 80 10,kS 81 (.nI 80),kS 82 (.iw 1 81),kS 83 (.fG 82),⟨⟨(some 84),none,(.bin .neq 9 83 (.const vE))⟩,[]⟩]) (.cond 84 (kO [kM 85 10,kM 86 5,kM 87 10,kS 88 (.nI 87),kS 89 (.iw 1 88),kS 90 (.fG 89),kS 91 (kC 281 [86,90]),kS 92 (.nI 85),kS 93 (.iw 3 92),kN (.store 1 93 91)]) .skip)) (.seq (.ops [94,95,96,97,98,99,100,101,102,103,104,105,106,107,108,109,110,111] [kM 94 10,kM 95 10,kM 96 8,kM 97 10,kS 98 (.nI 97),kS 99 (.iw 4 98),kS 100 (.fG 99),kM 102 8,kM 103 10,kS 104 (.nI 103),kS 105 (.iw 5 104),kS 106 (.fG 105),⟨⟨(some 101),none,(.call 96 [100])⟩,[⟨(some 106),none,(.fG 105)⟩]⟩,kS 107 (.call 102 [106]),kS 108 (.nI 94),kS 109 (.iw 6 108),kN (.store 1 109 101),kS 110 (.nI 95),kS 111 (.iw 7 110),kN (.store 1 111 107)]) (.seq (kO [kM 112 10,kS 113 (.nI 112),kS 114 (.iw 10 113),kS 115 (.fG 114),⟨⟨(some 116),none,(.bin .neq 9 115 (.const vE))⟩,[]⟩]) (.cond 116 (kO [kM 117 10,kM 118 6,kM 119 10,kS 120 (.nI 119),kS 121 (.iw 10 120),kS 122 (.fG 121),kS 123 (kC 281 [118,122]),kS 124 (.nI 117),kS 125 (.iw 11 124),kN (.store 1 125 123)]) .skip)))))))) (kO [kS 126 (.bin .add 3 67 (.const (iV 1))),kM 67 126]))))))) (.seq (kO [kS 127 (.sO 10 1),kN (.store 10 2 127),kN (.store 1 3 (.const (iV 0)))]) .ret)))))))))))))⟩
def ana:enF prog 226=some PK:=oB
def tX(a b:ByteArray):(a.toList==b.toList)=decide (a=b):=by
 rw[ByteArray.toList_eq,ByteArray.toList_eq];by_cases h:a=b
 .subst h;simp
 .rw[dA h];cases hb:a.data.toList==b.data.toList with
  |false=>rfl
  |true=>
   have:=eq_of_beq hb;exact absurd (ByteArray.ext (Array.ext' this)) h
abbrev zT:ae ah:=[.string ⟨⟨[]⟩⟩,iV 0,iV 0,iV 0,iV 0,.slice none 0 0,.slice none 0 0,.slice none 0 0,.slice none 0 0,.slice none 0 0]
variable{b2 b3:Nat}
def anb:GI prog (.func 270) [] [ptr' b2,ptr' b3] .returning [] [] (λ_:Unit=>.ok (.tuple ⟨[]⟩)) (λ_=>.returning) (λ_=>[]) (λ_=>[]) (λ_=>True):=by
 refine Ol UL abW λB w0=>?_;refine go ?_;refine Oo (v:=.nilIface) (m':=.returning) rfl ?_;refine go ?_;refine(dx (v:=.bool false) rfl rfl (λh=>by
  show(match mD prog .neq 20 (.tmp 4) (.const .nilIface) .nilIface .nilIface with|some v=>some (v,h)|none=>none)=_;rw[show mD prog .neq 20 (.tmp 4) (.const .nilIface) .nilIface .nilIface=some (.bool false)by kernel_rfl])).h ?_
 refine go ?_;exact Ot () (hv:=rfl) (hm:=rfl) (hp:=trivial)
def anc{e:Int}(he:e=160\/e=161):GI prog (.func 270) [] [ptr' b2,ptr' b3] (.panicking (sw e)) [pt b2 (.cells zT),pt b3 (.cells [iV 0])] [] (λ_:Unit=>.ok (.tuple ⟨[]⟩)) (λ_=>.panicking [{v:=.iface 39 (iV e),recovered:=true}])
 (λ_=>[pt b2 (.cells zT),pt b3 (.cells [iV e])]) (λ_=>[]) (λ_=>True):=by
 refine Ol UL abW λB w0=>?_;refine go ?_;refine Oo (v:=.iface 39 (iV e)) (m':=.panicking [{v:=.iface 39 (iV e),recovered:=true}]) rfl ?_;refine go ?_;refine(dx (v:=.bool true) rfl rfl (λh=>by
  show(match mD prog .neq 20 (.tmp 4) (.const .nilIface) (.iface 39 (iV e)) .nilIface with|some v=>some (v,h)|none=>none)=_;rcases he with rfl|rfl
  .rw[show mD prog .neq 20 (.tmp 4) (.const .nilIface) (.iface 39 (iV 160)) .nilIface=some (.bool true)by kernel_rfl]
  .rw[show mD prog .neq 20 (.tmp 4) (.const .nilIface) (.iface 39 (iV 161)) .nilIface=some (.bool true)by kernel_rfl])).h ?_
 refine go ?_;exact Ot () (hv:=rfl) (hm:=rfl) (hp:=trivial)
structure KT where
 ok:Bool
 e:Int
 vc:Value
 vu:Value
abbrev Dg(d:dR)(vh vs vr:ah)(y:KT):ah:=.tuple ⟨[.agg ⟨cond y.ok (oO (Kd.eO d) vh vs vr y.vc y.vu) zT⟩,iV y.e]⟩
abbrev xJ(d:dR)(y:KT):ae aI:=cond y.ok [ay eP y.vc (Kd.eO d).dn,ay di y.vu (Kd.eO d).rules] []
def HZ(d:dR)(y:KT):Prop:=(y.ok=true->y.e=0/\G8 d)/\(y.ok=false->y.e≠0/\¬G8 d)
structure uX(d:dR):Prop where
 eH:d.symbols.length<=4096
 regs:d.regions.length<=4096
 ny:d.dn.length<=4096
 oP:d.rules.length<=4096
 Dh:∀r∈d.rules,r.names.length<2^63/\r.others.length<2^63
 holes:d.holes.length<2^63
 Di:∀r∈d.regions,r.lists.length<2^63/\∀l∈r.lists,l.length<2^63
section
variable {B:ae Nat} {w0:Wd} {kl bA:ae OA} {F:ae aI} {l:qr} {b2 b3:Nat} {n:Nat}
def Bo{d:dR}{vh vs vr:ah}{e:Int}(he:e=160\/e=161)(hno:¬G8 d)(h2:lk l 2=ptr' b2)(h3:lk l 3=ptr' b3)(hk:aJ [pt b2 (.cells zT),pt b3 (.cells [iV 0])] kl bA):
 R (λh=>rV prog PK (AU B w0 (λy=>.ok (Dg d vh vs vr y)) (λ_=>[]) (xJ d) (HZ d)) (.panic (sw e)) (act n l [{target:=.fn (.func 270) ⟨[ptr' b2,ptr' b3]⟩,args:=⟨[]⟩}] none none) h) B w0 kl F:=by
 refine EE (m:=.panicking (sw e)) ?_;refine Oq (bA:=bA) (dS:=λ_=>[pt b2 (.cells zT),pt b3 (.cells [iV e])]++bA) (F2:=λ_=>F) (anc (b2:=b2) (b3:=b3) he) (λy v _ _=>?_) (λy ch _ hc=>by cases hc) (hk:=hk) (hF:=.nil) (hk2:=λ_=>dz.app) (hF2:=λ_=>dz.nil);show RL _ _ _ _ .returning _ _ _ _ _;refine Ou (bA:=[pt b2 (.cells zT),pt b3 (.cells [iV e])]++bA) (vs:=[.agg ⟨zT⟩,iV e]) ⟨false,e,.nilFunc,.nilFunc⟩ rfl ⟨(λh=>by cases h),λ_=>⟨by rcases he with rfl|rfl<;>simp,hno⟩⟩ (hr:=?_) (hk:=.nil) (hF:=.nil);show RS l _ [.pX 10 2,.cell1 3] _;exact .pX h2 .here rfl (.cell1 h3 (.there .here) rfl .nil)
end
section
variable {B:ae Nat} {w0:Wd} {kl bA:ae OA} {F:ae aI} {l:qr} {b2 b3:Nat} {n:Nat}
def ab0{d:dR}{vh vs vr:ah}{o:Out}{cs:ae ah}{e:Int}(y:KT)(ho:wW o=some .returning)(hcs:cs=cond y.ok (oO (Kd.eO d) vh vs vr y.vc y.vu) zT)(hl:cs.length=10)(hy:y.e=e)(hp:HZ d y)(hF:∀w,(∀f∈F,f.p w)->∀f∈xJ d y,f.p w)(h2:lk l 2=ptr' b2)(h3:lk l 3=ptr' b3)(hk:aJ [pt b2 (.cells cs),pt b3 (.cells [iV e])] kl bA):
 R (λh=>rV prog PK (AU B w0 (λy=>.ok (Dg d vh vs vr y)) (λ_=>[]) (xJ d) (HZ d)) o (act n l [{target:=.fn (.func 270) ⟨[ptr' b2,ptr' b3]⟩,args:=⟨[]⟩}] none none) h) B w0 kl F:=by
 refine EE (m:=.returning) ?_ ho;refine Oq (k1:=[]) (bA:=kl) (dS:=λ_=>kl) (F2:=λ_=>F) (anb (b2:=b2) (b3:=b3)) (λ_ v _ _=>?_) (λ_ ch _ hc=>by cases hc) (hk:=.nil) (hF:=.nil) (hk2:=λ_=>dz.nil) (hF2:=λ_=>dz.nil);show RL _ _ _ _ .returning _ _ _ _ _;intro w s;have s':St B w0 ([pt b2 (.cells cs),pt b3 (.cells [iV e])]++bA) (xJ d y) w:=by
  have:=s.ku hk;exact⟨this.agree,this.le,this.fF,this.own,hF w this.facts⟩
 refine Ou (F:=xJ d y) (bA:=[pt b2 (.cells cs),pt b3 (.cells [iV e])]++bA) (vs:=[.agg ⟨cs⟩,iV e]) y ?_ hp (hr:=?_) (hk:=.nil) (hF:=?_) w s'
 .show jL.ok (Dg d vh vs vr y)=_;unfold Dg;rw[<- hcs,hy];rfl
 .show RS l _ [.pX 10 2,.cell1 3] _;exact .pX h2 .here tW (.cell1 h3 (.there .here) rfl .nil)
 .have:∀k:ae aI,Sub k k:=λk=>by
   have:=Sub.refl' k [];simpa using this
  exact this _
end
variable{X:ae (bF×di.Y)}{k:Nat}
def H6(hk:k<X.length){q q':bF×di.Y}{j:Nat}{v:ah}(h:(di.pat q.1 q.2).set j v=di.pat q'.1 q'.2)(hj:j<12):(dP di (X.set k q)).set (0+k*12+j) v=dP di (X.set k q'):=by
 rw[gq];have:=Tt (E:=di) (aF:=X.set k q) (k:=k) (p:=q) (p':=q') tt h hj;rw[List.set_set]at this;exact this
def ET(hk:k<X.length){q:bF×di.Y}{j:Nat}{u:ah}(h:(di.pat q.1 q.2)[j]? =some u):(dP di (X.set k q))[0+k*12+j]? =some u:=by
 rw[gq];exact yC (E:=di) (aF:=X.set k q) (k:=k) tt h
def H7(hk:k<X.length){q:bF×di.Y}{j:Nat}(hj:j<12):0+k*12+j<(dP di (X.set k q)).length:=by
 rw[zJ,lu];show 0+k*12+j<X.length*12;omega
def ab1{d:dR}{vh vs vr vc vu:ah}(hS:uX d):aY prog (.func 226) [.agg ⟨oO d vh vs vr vc vu⟩] [] [] (uQ d vh vs vr vc vu) (Dg d vh vs vr) (λ_=>[]) (xJ d) (HZ d):=by
 refine rX.toC _ ?_ (λ_ _=>rfl);have hsl:=hS.eH;have hrl:=hS.regs;have hcl:=hS.ny;have pO:=hS.oP;refine zH PK ana λB w0=>?_;refine go ?_;intro b1 b2 b3;refine go ?_;refine Zq ?_;refine aK ?_ ?_<;>intro h1
 .refine go ?_;exact ab0 (e:=2) (cs:=zT) ⟨false,2,.nilFunc,.nilFunc⟩ rfl rfl rfl rfl ⟨(λh=>by cases h),λ_=>⟨ox,λh=>by have:=h.eH;omega⟩⟩ (λw _ f hf=>by cases hf) rfl rfl bM
 have hsy:(iR d).length<=16:=by show(d.symbols.map (·.name)).length<=16;rw[bi];omega
 refine go ?_;refine yB jd (λbs=>?_);refine go ?_;refine vW (am2 (b:=bs) (start:=0) (aC:=[]) hsl ov Ad) (λy v hy e=>?_) (λy ch hy e=>?_)
 rotate_left
 .obtain⟨y,ns⟩:=y;cases y with
  |true=>cases e
  |false=>
   injection e with e;subst e;refine go ?_;exact Bo (e:=161) (.inr rfl) (λh=>hy.2 rfl (by simpa[iR]using h.ak2)) rfl rfl bM
 obtain⟨y,ns⟩:=y;cases y with
 |false=>cases e
 |true=>
 injection e with e;subst e;have hns:ns=iR d:=(hy.1 rfl).1;have hsn:(iR d).Nodup:=by have:=(hy.1 rfl).2;simpa[iR]using this
 clear hy;subst hns;dsimp only;rw[show([]:ae (ByteArray×ah))++gz _ 0=gz _ 0 from rfl];refine gZ (EH (b:=bs)) ?_;refine go ?_;intro b4;refine go ?_;refine yB jd (λbf=>?_);refine fH am6 (next:=λvg _=>?_);refine vW (am1 (b:=bf) (xs:=EM) (start:=0) (aC:=[]) oU ov Ad) (λy v hy e=>?_) (λy ch hy e=>?_)
 rotate_left
 .obtain⟨y,ns⟩:=y;cases y with
  |true=>cases e
  |false=>exact absurd oU (hy.2 rfl)
 obtain⟨y,ns⟩:=y;cases y with
 |false=>cases e
 |true=>
 injection e with e;subst e;have hns:ns=EM:=(hy.1 rfl).1;clear hy;subst hns;dsimp only;rw[show([]:ae (ByteArray×ah))++gz _ 0=gz _ 0 from rfl];refine vW (am3 (b:=bf) (start:=8) (aC:=gz EM 0) hrl ov (by rw[xC];decide)) (λy v hy e=>?_) (λy ch hy e=>?_)
 rotate_left
 .obtain⟨y,ns⟩:=y;cases y with
  |true=>cases e
  |false=>
   injection e with e;subst e;refine go ?_;exact Bo (e:=161) (.inr rfl) (λh=>hy.2 rfl (by rw[xC];exact h.ak3)) rfl rfl bM
 obtain⟨y,ns⟩:=y;cases y with
 |false=>cases e
 |true=>
 injection e with e;subst e;have hns:ns=d.regions.map Reg.name:=(hy.1 rfl).1;have hfn:(iT d).Nodup:=by have:=(hy.1 rfl).2;rw[xC]at this;exact this
 clear hy;subst hns;dsimp only;have hfe:gz EM 0++gz (d.regions.map Reg.name) 8=gz (iT d) 0:=by
  unfold iT;rw[TN];rfl
 rw[hfe];clear hfe;refine gZ (EH (b:=bf)) ?_;refine go ?_;refine yB jd (λbc=>?_);refine go ?_;refine vW (am4 (b:=bc) (start:=0) (aC:=[]) hcl ov Ad) (λy v hy e=>?_) (λy ch hy e=>?_)
 rotate_left
 .obtain⟨y,ns⟩:=y;cases y with
  |true=>cases e
  |false=>
   injection e with e;subst e;refine go ?_;exact Bo (e:=161) (.inr rfl) (λh=>hy.2 rfl (by simpa[mM]using h.ak4)) rfl rfl bM
 obtain⟨y,ns⟩:=y;cases y with
 |false=>cases e
 |true=>
 injection e with e;subst e;have hns:ns=mM d:=(hy.1 rfl).1;have hcn:(mM d).Nodup:=by have:=(hy.1 rfl).2;simpa[mM]using this
 clear hy;subst hns;dsimp only;rw[show([]:ae (ByteArray×ah))++gz _ 0=gz _ 0 from rfl];refine gZ (EH (b:=bc)) ?_;refine go ?_;refine J6 eP vc (λxc zO=>?_);have hxl:xc.length=d.dn.length:=by rw[<- zO,bi]
 refine fH (am8 (aF:=xc) ov) (next:=λv1 _=>?_);refine ZK (E:=eP) (v:=v1) (aF:=xc) (λa1 e1=>?_);subst e1;refine go ?_;let f1:jA×eP.Y->jA×eP.Y:=λp=>(G7 (iT d) p.1,p.2)
 rw[show ar eP (.slice a1 xc.length xc.length) xc=ar eP (.slice a1 xc.length xc.length) (kW f1 0 xc)from rfl];refine dL (λk=>xc.length - k) (λk:Nat=>[(38,iV (k:Int))]) (λk=>[ar eP (.slice a1 xc.length xc.length) (kW f1 k xc)]) (λ_=>[]) (λk=>k<=xc.length/\∀p∈xc.take k,p.1.on∈iT d) 0 ⟨bI _,ox⟩ (body:=?_);rintro k ⟨hk,hall⟩;refine aK ?_ ?_<;>intro h2
 .refine go ?_;refine ZJ (E:=eP) (aF:=kW f1 k xc) (by rw[CW];omega) (λbx fx hfx ev=>?_);injection ev with ea _ _;subst ea;refine go ?_;obtain⟨p,hp⟩:∃p,xc[k]? =some p:=⟨xc[k]'(ov),bN _⟩
  have hget:(kW f1 k xc)[k]? =some p:=by rw[aaC _ ov];exact hp
  have nM:p.1∈d.dn:=by rw[<- zO];exact List.mem_map_of_mem (aV hp)
  refine oN (o:=0+k*6+1) (cs:=dP eP (kW f1 k xc)) (.string p.1.on) (by rw[gq];exact yC (E:=eP) (j:=1) hget rfl) ?_;refine vW (PI (b:=bf) (s:=p.1.on) (aC:=gz (iT d) 0)) (λy v hy e=>?_) (λy ch hy e=>?_)
  rotate_left
  .have hm:p.1.on∉iT d:=by
    exact i6
   rw[wm rF]at hy;subst hy;injection e with e;subst e;refine go ?_;exact Bo (e:=160) (.inl rfl) (λh=>hm (h.aaA p.1 nM)) rfl rfl bM
  have hm:p.1.on∈iT d:=by
   by_cases h:p.1.on∈iT d
   .exact h
   .exact fN
  rw[Bb hm]at hy;subst hy;injection e with e;subst e;rw[gq];refine go ?_;refine jN (o:=0+k*6+2) (cs:=dP eP (kW f1 k xc)) (cs':=dP eP (kW f1 (k+1) xc)) (v:=iV ((jY p.1.on (iT d):Nat):Int)) (by rw[gq,<- aaD f1 hp];exact Tt (E:=eP) (j:=2) (p':=f1 p) hget rfl oU) (by rw[zJ,CW];show 0+k*6+2<xc.length*6;omega) ?_;refine go ?_;refine xz (b:=bx) (f:=fx) (m:=xc.length) eP (aF:=kW f1 (k+1) xc) (by rw[CW]) hfx ?_;refine aW (k+1) ov ⟨ov,λq hq=>?_⟩;rw[rP,hp]at hq;rcases fU.1 hq with h|h
  .exact hall q h
  .have:q=p:=by simpa using h
   rw[this];exact hm
 have hkl:k=xc.length:=ov
 subst hkl;rw[dK]at hall;have hcon:∀c∈d.dn,c.on∈iT d:=by
  intro c hc;rw[<- zO]at hc;obtain⟨p,hp,rfl⟩:=cO.1 hc;exact hall p hp
 clear hall hk;rw[aaB];refine go ?_;refine yB jd (λbu=>?_);refine go ?_;refine vW (am5 (b:=bu) (start:=0) (aC:=[]) pO ov Ad) (λy v hy e=>?_) (λy ch hy e=>?_)
 rotate_left
 .obtain⟨y,ns⟩:=y;cases y with
  |true=>cases e
  |false=>
   injection e with e;subst e;refine go ?_;exact Bo (e:=161) (.inr rfl) (λh=>hy.2 rfl (by simpa[OV]using h.ak5)) rfl rfl bM
 obtain⟨y,ns⟩:=y;cases y with
 |false=>cases e
 |true=>
 injection e with e;subst e;have hrn:(OV d).Nodup:=by have:=(hy.1 rfl).2;simpa[OV]using this
 clear hy;dsimp only;refine gZ (EH (b:=bu)) ?_;refine go ?_;refine J6 di vu (λxr nA=>?_);have au7:xr.length=d.rules.length:=by rw[<- nA,bi]
 refine fH (am9 (aF:=xr) ov) (next:=λv2 _=>?_);refine ZK (E:=di) (v:=v2) (aF:=xr) (λa2 e2=>?_);subst e2;refine go ?_;refine gP b4 ?_;refine go ?_;let f2:bF×di.Y->bF×di.Y:=λp=>(yE (iR d) (iT d) (mM d) p.1,p.2)
 rw[show ar di (.slice a2 xr.length xr.length) xr=ar di (.slice a2 xr.length xr.length) (kW f2 0 xr)from rfl];refine Tu (E:=di) (v:=vu) (aF:=xr) ?_;refine dL (λk=>xr.length - k) (λk:Nat=>[(67,iV (k:Int))]) (λk=>[ar di (.slice a2 xr.length xr.length) (kW f2 k xr)]) (λ_=>[]) (λk=>k<=xr.length/\∀p∈xr.take k,TP (iR d) (iT d) (mM d) p.1) 0 ⟨bI _,ox⟩ (body:=?_);rintro k ⟨hk,hall⟩;refine aK ?_ ?_<;>intro h2
 .refine go ?_;refine ZJ (E:=di) (aF:=kW f2 k xr) (by rw[CW];omega) (λfV fy hfy ev=>?_);injection ev with ea _ _;subst ea;obtain⟨p,hp⟩:∃p,xr[k]? =some p:=⟨xr[k]'(ov),bN _⟩
  have hpm:=aV hp;have hget:(kW f2 k xr)[k]? =some p:=by rw[aaC _ ov];exact hp
  have nM:p.1∈d.rules:=by rw[<- nA];exact List.mem_map_of_mem hpm
  have hfin:=aaD f2 hp;obtain⟨r,v3,v4⟩:=p;have hrs:=hS.Dh r nM;have oQ:k<(kW f2 k xr).length:=by rw[CW];omega
  have ane:(kW f2 k xr).length=xr.length:=CW _ _ _;have e0:kW f2 k xr=(kW f2 k xr).set k (r,v3,v4):=by
   apply iQ;intro i;rw[rM];by_cases hi:k=i
   .subst hi;rw[if_pos rfl,if_pos oQ,hget]
   .rw[if_neg hi]
  refine fA (ay ko v3 r.names) (λw h=>h (vZ di xr) (eX ..) _ hpm _ (eX ..)) ?_;refine fA (ay ko v4 r.others) (λw h=>h (vZ di xr) (fP _ (eX ..)) _ hpm _ (fP _ (eX ..))) ?_;rw[e0];rw[<- e0];generalize hX:kW f2 k xr=X at oQ ane e0 hfin;rw[e0];refine go ?_;refine jN (o:=0+k*12+3) (cs:=dP di (X.set k (r,v3,v4))) (cs':=dP di (X.set k ({r with family:=0},v3,v4))) (v:=iV 0) (H6 oQ rfl ov) (H7 oQ ov) ?_;refine go ?_;refine jN (o:=0+k*12+11) (cs:=dP di (X.set k ({r with family:=0},v3,v4))) (cs':=dP di (X.set k ({r with family:=0,aN:= -1},v3,v4))) (v:=iV (-1)) (H6 oQ rfl ov) (H7 oQ ov) ?_;refine go ?_;refine oN (o:=0+k*12+1) (cs:=dP di (X.set k ({r with family:=0,aN:= -1},v3,v4))) (.string r.on) (ET oQ rfl) ?_;refine go ?_;refine Zn (bA:=[pt b1 (.cells [.string d.name,iV d.version,iV d.shape,iV d.w,iV d.h,vh,vs,vr,.slice a1 xc.length xc.length,.slice (some ⟨fV,0,some fy⟩) xr.length xr.length]),ar eP (.slice a1 xc.length xc.length) (xc.map f1),pt b3 (.cells [iV 0]),pt b2 (.cells zT)]) [] (λ_:Unit=>[]) (λ_=>[pt fV (.cells (dP di (X.set k ({r with family:=if r.on=⟨⟨[]⟩⟩then 0 else(jY r.on (iT d):Int),aN:= -1},v3,v4))))]) (λ_=>[]) (λ_=>r.on=⟨⟨[]⟩⟩\/r.on∈iT d) (hx:=?_) (hy:=?_)
  .refine qW (p:=r.on=⟨⟨[]⟩⟩) rI (λh3=>?_) (λh3=>?_)
   .refine go ?_;refine oN (o:=0+k*12+1) (cs:=dP di (X.set k ({r with family:=0,aN:= -1},v3,v4))) (.string r.on) (ET oQ rfl) ?_;refine vW (PI (b:=bf) (s:=r.on) (aC:=gz (iT d) 0)) (λy v hy e=>?_) (λy ch hy e=>?_)
    rotate_left
    .have hm:r.on∉iT d:=by
      exact i6
     rw[wm rF]at hy;subst hy;injection e with e;subst e;refine go ?_;refine ajB ?_;refine go ?_;exact Bo (e:=160) (.inl rfl) (λh=>(h.rul r nM).on.elim h3 hm) rfl rfl bM
    have hm:r.on∈iT d:=by
     by_cases h:r.on∈iT d
     .exact h
     .exact fN
    rw[Bb hm]at hy;subst hy;injection e with e;subst e;rw[gq];refine go ?_;refine jN (o:=0+k*12+3) (cs:=dP di (X.set k ({r with family:=0,aN:= -1},v3,v4))) (cs':=dP di (X.set k ({r with family:=if r.on=⟨⟨[]⟩⟩then 0 else(jY r.on (iT d):Int),aN:= -1},v3,v4))) (v:=iV ((jY r.on (iT d):Nat):Int)) (by rw[if_neg h3];exact H6 oQ rfl ov) (H7 oQ ov) ?_;refine go ?_;exact Oj () (.inr hm)
   .refine go ?_;rw[show({r with family:=0,aN:= -1}:bF)={r with family:=if r.on=⟨⟨[]⟩⟩then 0 else(jY r.on (iT d):Int),aN:= -1}by rw[if_pos h3]];exact Oj () (.inl h3)
  intro _ hon;generalize hfm:(if r.on=⟨⟨[]⟩⟩then 0 else(jY r.on (iT d):Int))=fm;refine go ?_;refine oN (o:=0+k*12+4) (cs:=dP di (X.set k ({r with family:=fm,aN:= -1},v3,v4))) v3 (ET oQ rfl) ?_;refine go ?_;refine oN (o:=0+k*12+5) (cs:=dP di (X.set k ({r with family:=fm,aN:= -1},v3,v4))) v4 (ET oQ rfl) ?_;refine go ?_;refine vW (abZ (b4:=b4) (bs:=bs) (vl:=v3) (eH:=iR d) (l:=r.names) hsy hrs.1) (λy v hy e=>?_) (λy ch hy e=>?_)
   (hs:=λy v _ _=>Gw (b:=fV) (o:=0+k*12+5) (cs:=dP di (X.set k ({r with family:=fm,aN:= -1},v3,v4))) (v:=v4) rfl tw (by rw[uE];exact ET oQ rfl) rfl Gv)
  rotate_left
  .cases y with
   |true=>cases e
   |false=>
    injection e with e;subst e;refine go ?_;exact Bo (e:=160) (.inl rfl) (λh=>hy.2 rfl (h.rul r nM).names) rfl rfl bM
  cases y with
  |false=>cases e
  |true=>
  injection e with e;subst e;have anf:=hy.1 rfl;clear hy;refine go ?_;refine go ?_;refine vW (abZ (b4:=b4) (bs:=bs) (vl:=v4) (eH:=iR d) (l:=r.others) hsy hrs.2) (λy v hy e=>?_) (λy ch hy e=>?_)
  rotate_left
  .cases y with
   |true=>cases e
   |false=>
    injection e with e;subst e;refine go ?_;exact Bo (e:=160) (.inl rfl) (λh=>hy.2 rfl (h.rul r nM).others) rfl rfl bM
  cases y with
  |false=>cases e
  |true=>
  injection e with e;subst e;have ang:=hy.1 rfl;clear hy;refine go ?_;refine jN (o:=0+k*12+6) (cs:=dP di (X.set k ({r with family:=fm,aN:= -1},v3,v4))) (cs':=dP di (X.set k ({r with family:=fm,aN:= -1,set:=(kI (iR d) r.names:Int)},v3,v4))) (v:=iV (kI (iR d) r.names:Int)) (H6 oQ rfl ov) (H7 oQ ov) ?_;refine go ?_;refine jN (o:=0+k*12+7) (cs:=dP di (X.set k ({r with family:=fm,aN:= -1,set:=(kI (iR d) r.names:Int)},v3,v4))) (cs':=dP di (X.set k ({r with family:=fm,aN:= -1,set:=(kI (iR d) r.names:Int),other:=(kI (iR d) r.others:Int)},v3,v4))) (v:=iV (kI (iR d) r.others:Int)) (H6 oQ rfl ov) (H7 oQ ov) ?_;refine go ?_;refine oN (o:=0+k*12+10) (cs:=dP di (X.set k ({r with family:=fm,aN:= -1,set:=(kI (iR d) r.names:Int),other:=(kI (iR d) r.others:Int)},v3,v4))) (.string r.fV) (ET oQ rfl) ?_;refine go ?_;have hnext:(r.fV=⟨⟨[]⟩⟩\/r.fV∈mM d)->∀q∈xr.take (k+1),TP (iR d) (iT d) (mM d) q.1:=by
   intro hby q hq;rw[rP,hp]at hq;rcases fU.1 hq with h|h
   .exact hall q h
   .have:q=(r,v3,v4):=eG.1 (show q∈[(r,v3,v4)]from h);rw[this];exact⟨hon,anf,ang,hby⟩
  refine qW (p:=r.fV=⟨⟨[]⟩⟩) rI (λh3=>?_) (λh3=>?_)
  .refine go ?_;refine oN (o:=0+k*12+10) (cs:=dP di (X.set k ({r with family:=fm,aN:= -1,set:=(kI (iR d) r.names:Int),other:=(kI (iR d) r.others:Int)},v3,v4))) (.string r.fV) (ET oQ rfl) ?_;refine vW (PI (b:=bc) (s:=r.fV) (aC:=gz (mM d) 0)) (λy v hy e=>?_) (λy ch hy e=>?_)
   rotate_left
   .have hm:r.fV∉mM d:=by
     exact i6
    rw[wm rF]at hy;subst hy;injection e with e;subst e;refine go ?_;exact Bo (e:=160) (.inl rfl) (λh=>(h.rul r nM).fV.elim h3 hm) rfl rfl bM
   have hm:r.fV∈mM d:=by
    by_cases h:r.fV∈mM d
    .exact h
    .exact fN
   rw[Bb hm]at hy;subst hy;injection e with e;subst e;rw[gq];refine go ?_;refine jN (o:=0+k*12+11) (cs:=dP di (X.set k ({r with family:=fm,aN:= -1,set:=(kI (iR d) r.names:Int),other:=(kI (iR d) r.others:Int)},v3,v4))) (cs':=dP di (X.set k (f2 (r,v3,v4)))) (v:=iV ((jY r.fV (mM d):Nat):Int)) (H6 oQ (by show _=jf (yE (iR d) (iT d) (mM d) r) v3 v4;unfold yE;rw[if_neg h3,hfm];rfl) ov) (H7 oQ ov) ?_;refine go ?_;rw[hfin];refine xz (b:=fV) (f:=fy) (m:=xr.length) di (aF:=kW f2 (k+1) xr) (by rw[CW]) hfy ?_;exact aW (k+1) ov ⟨ov,hnext (.inr hm)⟩
  .refine go ?_;rw[show X.set k (({r with family:=fm,aN:= -1,set:=(kI (iR d) r.names:Int),other:=(kI (iR d) r.others:Int)}:bF),v3,v4)=kW f2 (k+1) xr by
    rw[<- hfin];congr 1;show _=(yE (iR d) (iT d) (mM d) r,v3,v4)
    unfold yE;rw[if_pos h3,hfm];rfl]
   refine xz (b:=fV) (f:=fy) (m:=xr.length) di (aF:=kW f2 (k+1) xr) (by rw[CW]) hfy ?_;exact aW (k+1) ov ⟨ov,hnext (.inl h3)⟩
 have hkl:k=xr.length:=ov
 subst hkl;rw[dK]at hall;rw[aaB];refine Oy (E:=eP) (v:=.slice a1 xc.length xc.length) (aF:=xc.map f1) ?_ (λw h p hp f hf=>by cases hf);refine Oy (E:=di) (v:=.slice a2 xr.length xr.length) (aF:=xr.map f2) ?_ (λw h p hp f hf=>by
  obtain⟨q,hq,rfl⟩:=cO.1 hp;exact h (vZ di xr) (fP _ (fP _ (eX ..))) q hq f hf)
 refine go ?_;refine ab0 (e:=0) ⟨true,0,.slice a1 xc.length xc.length,.slice a2 xr.length xr.length⟩ rfl (by rfl) rfl rfl ⟨λ_=>⟨rfl,⟨ov,hsn,hfn,hcn,hcon,hrn,λr hr=>?_⟩⟩,λh=>by cases h⟩ (λw h f hf=>?_) rfl rfl bM
 .rw[<- nA]at hr;obtain⟨p,hp,rfl⟩:=cO.1 hr;exact hall p hp
 .have ec:(xc.map f1).map (·.1)=(Kd.eO d).dn:=by
   show _=d.dn.map (G7 (iT d));rw[<- zO,rO,rO];rfl
  have er:(xr.map f2).map (·.1)=(Kd.eO d).rules:=by
   show _=d.rules.map (yE (iR d) (iT d) (mM d));rw[<- nA,rO,rO];rfl
  rw[ec,er]at h;have hf:f∈[ay eP (.slice a1 xc.length xc.length) (Kd.eO d).dn,ay di (.slice a2 xr.length xr.length) (Kd.eO d).rules]:=hf;rcases dm.1 hf with rfl|hf
  .exact h _ ox
  .rw[eG.1 hf];exact h _ ox
end Go.Proofs.YtgimfpcgbmpkhaaGreat
namespace Go.Proofs.YtgimfpcgbmpkhaaGreat
open Tryz (prog)
open Go.Ideal Kd
variable{va vb:ah}{xs ys:ae (ae Int)}
def ab3(hal:xs.length<2^63)(hl:∀l∈xs,l.length<2^63):dO prog 233 [va,vb,.func (.func 91) #[] #[]] [ay (aA aj) va xs,ay (aA aj) vb ys] (.bool (decide (xs=ys))):=by
 refine gB 233 λB w0=>?_;refine aK ?_ ?_<;>intro h1
 .exact cU
 have hlen:xs.length=ys.length:=ov
 refine gN xs.length 17 (λk=>k<=xs.length/\∀j,j<k->xs[j]? =ys[j]?) ⟨ov,λj hj=>by omega⟩ ?_;rintro k ⟨hkx,hsame⟩;refine aK ?_ ?_<;>intro h2
 .refine gX (aA aj) λ_ _ x (vx:ah) hx=>?_;refine gX (aA aj) λ_ _ y (vy:ah) hy=>?_;refine gC (wC (xs:=x) (ys:=y) (hl x (aV hx))) λ_ _=>?_;refine go ?_;refine qW rfl (λh3=>?_) (λh3=>?_)
  .exact cP
  exact cm
 exact cj
def ab4(hal:xs.length<2^63)(hl:∀l∈xs,l.length<2^63):dO prog 197 [va,vb] [ay (aA aj) va xs,ay (aA aj) vb ys] (.bool (decide (xs=ys))):=by
 refine gB 197 λB w0=>?_;refine gC (ab3 (xs:=xs) (ys:=ys) hal hl) λ_ _=>?_;exact dH
def anh{xs ys:ae (ae (ae Int))}(hal:xs.length<2^63)(hl:∀l∈xs,l.length<2^63/\∀m∈l,m.length<2^63):dO prog 198 [va,vb,.func (.func 197) #[] #[]] [ay (aA (aA aj)) va xs,ay (aA (aA aj)) vb ys] (.bool (decide (xs=ys))):=by
 refine gB 198 λB w0=>?_;refine aK ?_ ?_<;>intro h1
 .exact cU
 have hlen:xs.length=ys.length:=ov
 refine gN xs.length 17 (λk=>k<=xs.length/\∀j,j<k->xs[j]? =ys[j]?) ⟨ov,λj hj=>by omega⟩ ?_;rintro k ⟨hkx,hsame⟩;refine aK ?_ ?_<;>intro h2
 .refine gX (aA (aA aj)) λ_ _ x (vx:ah) hx=>?_;refine gX (aA (aA aj)) λ_ _ y (vy:ah) hy=>?_;refine gC (ab4 (xs:=x) (ys:=y) (hl x (aV hx)).1 (hl x (aV hx)).2) λ_ _=>?_;refine go ?_;refine qW rfl (λh3=>?_) (λh3=>?_)
  .exact cP
  exact cm
 exact cj
def ab5{xs ys:ae ByteArray}(hal:xs.length<2^63):dO prog 235 [va,vb] [ay ko va xs,ay ko vb ys] (.bool (decide (xs=ys))):=by
 refine gB 235 λB w0=>?_;refine aK ?_ ?_<;>intro h1
 .exact cU
 have hlen:xs.length=ys.length:=ov
 refine gN xs.length 13 (λk=>k<=xs.length/\∀j,j<k->xs[j]? =ys[j]?) ⟨ov,λj hj=>by omega⟩ ?_;rintro k ⟨hkx,hsame⟩;refine aK ?_ ?_<;>intro h2
 .refine gX ko λ_ _ x (_:Unit) hx=>?_;refine gX ko λ_ _ y (_:Unit) hy=>?_;refine go ?_;refine qW (p:=x=y) rI (λh3=>?_) (λh3=>?_)
  .exact cP
  exact cm
 exact cj
def ani(x y:nQ):cellsE [.string x.name,iV x.value] [.string y.name,iV y.value]=decide (x=y):=by
 obtain⟨a,b⟩:=x;obtain⟨c,e⟩:=y;show(decide (a=c)&&(decide (b=e)&&true))=_;rw[Bool.and_true,<- Bool.decide_and];exact nZ.2 ⟨λh=>by rw[h.1,h.2],λh=>by cases h;exact⟨rfl,rfl⟩⟩
abbrev PL(x:jA):ae ah:=[.string x.name,.string x.on,iV x.family,iV x.type,iV x.lo,iV x.hi]
def anj(x y:jA):cellsE (PL x) (PL y)=decide (x=y):=by
 obtain⟨a1,a2,a3,a4,a5,a6⟩:=x;obtain⟨b1,b2,b3,b4,b5,b6⟩:=y;show(decide (a1=b1)&&(decide (a2=b2)&&(decide (a3=b3)&&(decide (a4=b4)&&(decide (a5=b5)&&(decide (a6=b6)&&true))))))=_;rw[Bool.and_true];simp only[<- Bool.decide_and];exact nZ.2 ⟨λh=>by rw[h.1,h.2.1,h.2.2.1,h.2.2.2.1,h.2.2.2.2.1,h.2.2.2.2.2],λh=>by cases h;exact⟨rfl,rfl,rfl,rfl,rfl,rfl⟩⟩
def ank:∃fs:Array Field,prog.underlying 94=some (.struct fs)/\GN prog fs.toList 0 [false,true]=true:=by
 refine⟨prog.fieldsOf 94,oB,oB⟩
def anl:∃fs:Array Field,prog.underlying 147=some (.struct fs)/\GN prog fs.toList 0 [false,false,true,true,true,true]=true:=by
 refine⟨prog.fieldsOf 147,oB,oB⟩
def anm{xs ys:ae nQ}(hal:xs.length<2^63):dO prog 236 [va,vb] [ay jO va xs,ay jO vb ys] (.bool (decide (xs=ys))):=by
 obtain⟨fs,hu,hrow⟩:=ank;refine gB 236 λB w0=>?_;refine aK ?_ ?_<;>intro h1
 .exact cU
 have hlen:xs.length=ys.length:=ov
 refine gN xs.length 13 (λk=>k<=xs.length/\∀j,j<k->xs[j]? =ys[j]?) ⟨ov,λj hj=>by omega⟩ ?_;rintro k ⟨hkx,hsame⟩;refine aK ?_ ?_<;>intro h2
 .refine gX jO λ_ _ x (_:Unit) hx=>?_;refine gX jO λ_ _ y (_:Unit) hy=>?_;refine go ?_;refine(dx (v:=.bool (!decide (x=y))) rfl rfl (by rw[<- ani];exact ZO rfl rfl hu oB oB (row_of hrow rfl rfl (λj=>by rw[gq]) (λj=>by rw[gq])) rK rK)).h ?_;refine go ?_;refine qW rfl (λh3=>?_) (λh3=>?_)
  .exact cP
  exact cm
 exact cj
def ann{xs ys:ae jA}(hal:xs.length<2^63):dO prog 238 [va,vb] [ay eP va xs,ay eP vb ys] (.bool (decide (xs=ys))):=by
 obtain⟨fs,hu,hrow⟩:=anl;refine gB 238 λB w0=>?_;refine aK ?_ ?_<;>intro h1
 .exact cU
 have hlen:xs.length=ys.length:=ov
 refine gN xs.length 13 (λk=>k<=xs.length/\∀j,j<k->xs[j]? =ys[j]?) ⟨ov,λj hj=>by omega⟩ ?_;rintro k ⟨hkx,hsame⟩;refine aK ?_ ?_<;>intro h2
 .refine gX eP λ_ _ x (_:Unit) hx=>?_;refine gX eP λ_ _ y (_:Unit) hy=>?_;refine go ?_;refine(dx (v:=.bool (!decide (x=y))) rfl rfl (by rw[<- anj];exact ZO rfl rfl hu oB oB (row_of hrow rfl rfl (λj=>by rw[gq]) (λj=>by rw[gq])) rK rK)).h ?_;refine go ?_;refine qW rfl (λh3=>?_) (λh3=>?_)
  .exact cP
  exact cm
 exact cj
end Go.Proofs.YtgimfpcgbmpkhaaGreat
namespace Go.Proofs.YtgimfpcgbmpkhaaGreat
open Tryz (prog)
open Go.Ideal Kd
def ano{x y:Reg}{vx vy:ah}(hl:x.lists.length<2^63)(hll:∀l∈x.lists,l.length<2^63):dO prog 232 [.agg ⟨[.string x.name,vx]⟩,.agg ⟨[.string y.name,vy]⟩] [ay (aA aj) vx x.lists,ay (aA aj) vy y.lists] (.bool (decide (x=y))):=by
 obtain⟨n1,l1⟩:=x;obtain⟨n2,l2⟩:=y;dsimp only at hl hll⊢;refine gB 232 λB w0=>?_;refine go ?_;intro b2 b3;refine gH ?_ ?_<;>intro h1
 .rw[tX]at h1;refine aZ ?_;rw[dA (λe=>wS h1 ph)];rfl
 rw[tX]at h1;have h1:=jI h1;refine gC (ab3 (xs:=l1) (ys:=l2) hl hll) λ_ _=>?_;refine aZ ?_;rw[show decide (Reg.mk n1 l1=Reg.mk n2 l2)=decide (l1=l2)from nZ.2 ⟨λh=>by cases h;rfl,λh=>by rw[h1,h]⟩];rfl
variable{u1 u2:ah}
def anp{x y:bF}{v1 v2:ah}(hl:x.names.length<2^63)(hll:x.others.length<2^63):dO prog 234 [.agg ⟨jf x v1 v2⟩,.agg ⟨jf y u1 u2⟩] [ay ko v1 x.names,ay ko v2 x.others,ay ko u1 y.names,ay ko u2 y.others] (.bool (decide (x=y))):=by
 obtain⟨n1,o1,k1,f1,ns1,os1,s1,t1,p1,m1,y1,c1⟩:=x;obtain⟨n2,o2,k2,f2,ns2,os2,s2,t2,p2,m2,y2,c2⟩:=y;dsimp only[jf]at hl hll⊢;refine gB 234 λB w0=>?_;refine go ?_;intro b2 b3;refine gC (ab5 (xs:=ns1) (ys:=ns2) hl) λ_ _=>?_;refine gH ?_ ?_<;>intro h1
 .refine aZ ?_;rw[dA (λe=>h1 ph)];rfl
 refine gC (ab5 (xs:=os1) (ys:=os2) hll) λ_ _=>?_;refine gH ?_ ?_<;>intro h2
 .refine aZ ?_;rw[dA (λe=>h2 ph)];rfl
 refine gH ?_ ?_<;>intro h3
 .rw[tX]at h3;refine aZ ?_;rw[dA (λe=>wS h3 ph)];rfl
 rw[tX]at h3;have h3:=jI h3;refine gH ?_ ?_<;>intro h4
 .rw[tX]at h4;refine aZ ?_;rw[dA (λe=>wS h4 ph)];rfl
 rw[tX]at h4;have h4:=jI h4;refine gH ?_ ?_<;>intro h5
 .rw[tX]at h5;refine aZ ?_;rw[dA (λe=>wS h5 ph)];rfl
 rw[tX]at h5;have h5:=jI h5;refine go ?_;refine(dx (v:=.bool (decide ([k1,f1,s1,t1,p1,m1,c1]=[k2,f2,s2,t2,p2,m2,c2]))) rfl rfl (ajW (n:=7) (e:=3) rfl rfl oB oB oB rfl rfl oB)).h ?_;refine aZ ?_;rw[show decide (bF.mk n1 o1 k1 f1 ns1 os1 s1 t1 p1 m1 y1 c1=bF.mk n2 o2 k2 f2 ns2 os2 s2 t2 p2 m2 y2 c2)=decide ([k1,f1,s1,t1,p1,m1,c1]=[k2,f2,s2,t2,p2,m2,c2])from nZ.2 ⟨λh=>by cases h;rfl,λh=>by cases h;rw[h1,h2,h3,h4,h5]⟩];rfl
variable{va vb:ah}
def anq{xs ys:ae Reg}(hal:xs.length<2^63)(hl:∀r∈xs,r.lists.length<2^63/\∀l∈r.lists,l.length<2^63):dO prog 237 [va,vb,.func (.func 232) #[] #[]] [ay lJ va xs,ay lJ vb ys] (.bool (decide (xs=ys))):=by
 refine gB 237 λB w0=>?_;refine aK ?_ ?_<;>intro h1
 .exact cU
 have hlen:xs.length=ys.length:=ov
 refine gN xs.length 17 (λk=>k<=xs.length/\∀j,j<k->xs[j]? =ys[j]?) ⟨ov,λj hj=>by omega⟩ ?_;rintro k ⟨hkx,hsame⟩;refine aK ?_ ?_<;>intro h2
 .refine gX lJ λ_ _ x (vx:ah) hx=>?_;refine go ?_;intro b8;refine gX lJ λ_ _ y (vy:ah) hy=>?_;refine go ?_;intro b9;refine gC (ano (x:=x) (y:=y) (vx:=vx) (vy:=vy) (hl x (aV hx)).1 (hl x (aV hx)).2) λ_ _=>?_;refine go ?_;refine qW rfl (λh3=>?_) (λh3=>?_)
  .exact cP
  exact cm
 exact cj
def anr{xs ys:ae bF}(hal:xs.length<2^63)(hl:∀r∈xs,r.names.length<2^63/\r.others.length<2^63):dO prog 239 [va,vb,.func (.func 234) #[] #[]] [ay di va xs,ay di vb ys] (.bool (decide (xs=ys))):=by
 refine gB 239 λB w0=>?_;refine aK ?_ ?_<;>intro h1
 .exact cU
 have hlen:xs.length=ys.length:=ov
 refine gN xs.length 17 (λk=>k<=xs.length/\∀j,j<k->xs[j]? =ys[j]?) ⟨ov,λj hj=>by omega⟩ ?_;rintro k ⟨hkx,hsame⟩;refine aK ?_ ?_<;>intro h2
 .refine gX di λ_ _ x (vx:ah×ah) hx=>?_;refine go ?_;intro b8;refine gX di λ_ _ y (vy:ah×ah) hy=>?_;refine go ?_;intro b9;refine gC (anp (x:=x) (y:=y) (v1:=vx.1) (v2:=vx.2) (u1:=vy.1) (u2:=vy.2) (hl x (aV hx)).1 (hl x (aV hx)).2) λ_ _=>?_;refine go ?_;refine qW rfl (λh3=>?_) (λh3=>?_)
  .exact cP
  exact cm
 exact cj
def ab8{x y:dR}{h1 s1 r1 c1 h2 s2 r2 c2:ah}(hS:uX x):dO prog 196 [.agg ⟨oO x h1 s1 r1 c1 u1⟩,.agg ⟨oO y h2 s2 r2 c2 u2⟩] (uQ x h1 s1 r1 c1 u1++uQ y h2 s2 r2 c2 u2) (.bool (decide (x=y))):=by
 have e1:=hS.eH;have e2:=hS.regs;have e3:=hS.ny;have e4:=hS.oP;have e5:=hS.Dh;have e6:=hS.holes;have e7:=hS.Di;clear hS;obtain⟨n1,v1,p1,w1,g1,ho1,sy1,re1,cl1,UO⟩:=x;obtain⟨n2,v2,p2,w2,g2,ho2,sy2,re2,cl2,UQ⟩:=y;dsimp only at e1 e2 e3 e4 e5 e6 e7;dsimp only[oO,uQ,List.cons_append,List.nil_append];refine gB 196 λB w0=>?_;refine go ?_;intro b2 b3;refine gH ?_ ?_<;>intro k1
 .rw[tX]at k1;refine aZ ?_;rw[dA (λe=>wS k1 ph)];rfl
 rw[tX]at k1;have k1:=jI k1;refine gH ?_ ?_<;>intro k2
 .exact nE
 refine gH ?_ ?_<;>intro k3
 .exact nD
 refine gH ?_ ?_<;>intro k4
 .exact nB
 refine gH ?_ ?_<;>intro k5
 .exact nw
 refine gC (wC (xs:=ho1) (ys:=ho2) e6) λ_ _=>?_;refine gH ?_ ?_<;>intro k6
 .exact nv
 refine gC (anm (xs:=sy1) (ys:=sy2) ov) λ_ _=>?_;refine gH ?_ ?_<;>intro k7
 .exact nt
 refine gC (anq (xs:=re1) (ys:=re2) ov e7) λ_ _=>?_;refine gH ?_ ?_<;>intro k8
 .refine aZ ?_;rw[dA (λe=>k8 ph)];rfl
 refine gC (ann (xs:=cl1) (ys:=cl2) ov) λ_ _=>?_;refine gH ?_ ?_<;>intro k9
 .refine aZ ?_;rw[dA (λe=>k9 ph)];rfl
 refine gC (anr (xs:=UO) (ys:=UQ) ov e5) λ_ _=>?_;refine aZ ?_;rw[show decide (dR.mk n1 v1 p1 w1 g1 ho1 sy1 re1 cl1 UO=dR.mk n2 v2 p2 w2 g2 ho2 sy2 re2 cl2 UQ)=decide (UO=UQ)from nZ.2 ⟨λh=>by cases h;rfl,λh=>by rw[k1,k2,k3,k4,k5,k6,k7,k8,k9,h]⟩];rfl
