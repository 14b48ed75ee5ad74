/-
  Part LibDR.
-/
import Derived.Test.YtpkieeggilkagaaGreatPlainBR
import Derived.Laws.Strings
import Derived.Test.YtpkieeggilkagaaGreatLibAR
set_option linter.all false
set_option maxRecDepth 10000
set_option maxHeartbeats 2000000
namespace Go.Proofs.YtpkieeggilkagaaGreat
open Go.Ideal Kd
noncomputable def Vg:gW:=⟨2,[(.tmp 0)],(.seq (kO [kS 0 (.nD (.const vS))]) (.seq (kO [⟨⟨(some 1),none,(.wC 9 8 [vE,vE,vE,vE,vE,vE,vE,vE] [⟨0,⟨1,(.const (.string ⟨⟨[99,101,108,108,115]⟩⟩))⟩⟩,⟨1,⟨1,(.const (.string ⟨⟨[114,111,119,115]⟩⟩))⟩⟩,⟨2,⟨1,(.const (.string ⟨⟨[99,111,108,117,109,110,115]⟩⟩))⟩⟩,⟨3,⟨1,(.const (.string ⟨⟨[100,105,97,103,111,110,97,108,115]⟩⟩))⟩⟩,⟨4,⟨1,(.const (.string ⟨⟨[97,114,111,117,110,100]⟩⟩))⟩⟩,⟨5,⟨1,(.const (.string ⟨⟨[110,101,97,114]⟩⟩))⟩⟩,⟨6,⟨1,(.const (.string ⟨⟨[112,97,105,114,115]⟩⟩))⟩⟩,⟨7,⟨1,(.const (.string ⟨⟨[97,108,108]⟩⟩))⟩⟩])⟩,[]⟩,kS 0 (.nD 1)]) .ret))⟩
theorem ae3:nV Tryz.prog 224=some Vg:=by kernel_rfl
abbrev jc:ByteArray->Value:=λs=>.string s
theorem uR:rP Tryz.prog 9 jc:=acv (by kernel_rfl)
abbrev tQ(e:Int):List PanicEntry:=[{v:=.iface 40 (.int .i64 e),recovered:=false}]
theorem Vh{x:nM}:bV Tryz.prog 220 [.agg ⟨[.string x.name,.int .i64 x.value]⟩] [] (.string x.name):=by
 refine aC _ (aF 220) λB w0=>?_;refine go ?_;intro b;refine go ?_;exact ae () (hv:=rfl) (hp:=trivial)
theorem Vi{x:mQ}{v:Value}:bV Tryz.prog 222 [.agg ⟨[.string x.name,v]⟩] [] (.string x.name):=by
 refine aC _ (aF 222) λB w0=>?_;refine go ?_;intro b;refine go ?_;exact ae () (hv:=rfl) (hp:=trivial)
theorem Vj{x:jo}:bV Tryz.prog 227 [.agg ⟨[.string x.name,.string x.on,.int .i64 x.family,.int .i64 x.type,.int .i64 x.lo,.int .i64 x.hi]⟩] [] (.string x.name):=by
 refine aC _ (aF 227) λB w0=>?_;refine go ?_;intro b;refine go ?_;exact ae () (hv:=rfl) (hp:=trivial)
theorem Vk{x:bB}{v1 v2:Value}:bV Tryz.prog 231 [.agg ⟨gY x v1 v2⟩] [] (.string x.name):=by
 refine aC _ (aF 231) λB w0=>?_;refine go ?_;intro b;refine go ?_;exact ae () (hv:=rfl) (hp:=trivial)
theorem Vl{s:ByteArray}:bV Tryz.prog 225 [.string s] [] (.string s):=by
 refine aC _ (aF 225) λB w0=>?_;refine go ?_;exact ae () (hv:=rfl) (hp:=trivial)
theorem FK{P:Program}{B:List Nat}{w0:Wd}{kl kl':List OA}{F:List aL}{K:KO}{ds:List Tmp}{rest:List bT}{n:Nat}{l:List (Nat×Value)}{D:List Deferred}{pm:Option FrameMode}{ro:Option Nat}{d:Nat}{g:Option (Tmp×Bool)}
 {α:Type} [DecidableEq α] {bz:α->Value} {kt:TypeId} {zero:Value} {m k:Operand} {b:Nat} {az:List (α×Value)} (hk:rP P kt bz) (a:α)
 (hit:∀v,dL a az=some v->a∈az.map (·.1)->R (λh=>aK P ds rest (act n ((d,.tuple ⟨[v,.bool true]⟩)::l) D pm ro) h K) B w0 kl F)
 (miss:a∉az.map (·.1)->R (λh=>aK P ds rest (act n ((d,.tuple ⟨[zero,.bool false]⟩)::l) D pm ro) h K) B w0 kl F)
 (hm:ev l m=.map (some b):=by rfl) (ha:ev l k=bz a:=by conv=>lhs;whnf) (hs:aA (gQ bz b az) kl kl':=by exact gz) (hn:Nat.blt d n=true:=by rfl) (hg:bW l g=true:=by rfl):
 R (λh=>aK P ds (⟨⟨some d,g,.lookup kt zero m k true⟩,[]⟩::rest) (act n l D pm ro) h K) B w0 kl F:=by
 refine E9 (ok:=true) hk a ?_ hm ha hs hn hg;by_cases h:a∈az.map (·.1)
 ·obtain⟨v,hv⟩:=Fs h;have e:kW true zero a az=.tuple ⟨[v,.bool true]⟩:=by unfold kW;rw[hv];rfl
  rw[e];exact hit v hv h
 ·have e:kW true zero a az=.tuple ⟨[zero,.bool false]⟩:=by unfold kW;rw[rQ h];rfl
  rw[e];exact miss h
theorem qf{α:Type}{az:List (ByteArray×Value)}{xs:List α}{nm:α->ByteArray}{start k:Nat}{x:α}(hx:xs[k]? =some x):
 (az++fE ((xs.take k).map nm) start).map (·.1)=az.map (·.1)++(xs.take k).map nm/\fE ((xs.take (k+1)).map nm) start=fE ((xs.take k).map nm) start++[(nm x,.int .i64 ((start:Int)+(k:Int)))]:=by
 have hk:=(bK.1 hx).1;refine⟨by rw[ed,tK],?_⟩;rw[nS,hx,ed,Nq];congr 1;rw[dV,gL,zF (by omega)];simp[fE]
theorem ae4{vs:Value}{xs:List ByteArray}{b start:Nat}{az:List (ByteArray×Value)}(hl:xs.length<=4096)(hs:start<=4096)(hnd:(az.map (·.1)).Nodup):
 qH Tryz.prog (.func 223) [vs,.int .i64 (start:Int),.func (.func 225) #[] #[],.map (some b)] [] [gQ jc b az] [ah bF vs xs] (λy:Bool×List ByteArray=>if y.1=true then .ok (.map (some b))else .fQ (tQ 161))
  (λy=>[gQ jc b (az++fE y.2 start)]) (λ_=>[]) (λy=>(y.1=true->y.2=xs/\(az.map (·.1)++xs).Nodup)/\(y.1=false->¬(az.map (·.1)++xs).Nodup)):=by
 let nm:ByteArray->ByteArray:=λs=>s
 have hmap:∀l:List ByteArray,l.map nm=l:=λl=>List.map_id' l;suffices h:qH Tryz.prog (.func 223) [vs,.int .i64 (start:Int),.func (.func 225) #[] #[],.map (some b)] [] [gQ jc b az] [ah bF vs xs] (λy:Bool×List ByteArray=>if y.1=true then .ok (.map (some b))else .fQ (tQ 161))
  (λy=>[gQ jc b (az++fE y.2 start)]) (λ_=>[]) (λy=>(y.1=true->y.2=(xs.map nm)/\(az.map (·.1)++xs.map nm).Nodup)/\(y.1=false->¬(az.map (·.1)++xs.map nm).Nodup))by
  rw[hmap]at h;exact h
 refine y5 _ (aF 223) λB w0=>?_;refine go ?_;rw[show gQ jc b az=gQ jc b (az++fE ((xs.take 0).map nm) start)by simp[fE]];refine aR (λk=>xs.length - k) (λk:Nat=>[(15,.int .i64 (k:Int))]) (λk=>[gQ jc b (az++fE ((xs.take k).map nm) start)]) (λ_=>[]) (λk=>k<=xs.length/\(az.map (·.1)++(xs.take k).map nm).Nodup) 0 ⟨bJ _,by simpa using hnd⟩ (body:=?_);rintro k ⟨hk,hall⟩;refine go ?_;refine ay rfl (λh1=>?_) (λh1=>?_)
 ·refine go ?_;refine aU bF (next:=λ_ _ x (y:Unit) hx=>?_);refine go ?_;refine aj (Vl (s:=x)) (next:=λ_ _=>?_);refine go ?_;refine FK uR (nm x) (λv hv hm=>?_) (λhm=>?_)
  ·refine go ?_;refine CB ?_;refine go ?_;refine Ar (false,(xs.take k).map nm) (hv:=rfl) (hp:=⟨(λh=>by cases h),λ_ hn=>?_⟩);rw[(qf hx).1]at hm;have hsub:(az.map (·.1)++(xs.take k).map nm++[nm x]).Nodup:=by
    have e:xs.map nm=(xs.take k).map nm++nm x::(xs.drop (k+1)).map nm:=by
     conv=>lhs;rw[<- su k xs]
     rw[ed];congr 1;rw[nR (bK.1 hx).1,ik,(bK.1 hx).2]
    rw[e,<- fI]at hn;rw[iq]at hn⊢;exact⟨hn.1,by simp,λa ha c hc=>hn.2.2 a ha c (by rw[bM.1 hc];exact dJ ..)⟩
   rw[iq]at hsub;exact hsub.2.2 _ hm _ (bM.2 rfl) rfl
  refine go ?_;refine aj (Vl (s:=x)) (next:=λ_ _=>?_);refine go ?_;refine xq uR (nm x) (az:=az++fE ((xs.take k).map nm) start) (v:=.int .i64 ((start:Int)+(k:Int))) ?_;have hm2:=hm;rw[(qf hx).1]at hm2;rw[CQ hm,fI,<- (qf (az:=az) hx).2];refine go ?_;refine aD (k+1) (by omega) ⟨by omega,?_⟩;rw[nS,hx,ed,<- fI,iq];refine⟨hall,by simp,λa ha c hc=>?_⟩;have:c=nm x:=by simpa using hc
  subst this;intro e;subst e;exact hm2 ha
 have hkl:k=xs.length:=by omega
 subst hkl;rw[bC]at hall;rw[bC];refine go ?_;exact Aq (true,xs.map nm) (hv:=rfl) (hp:=⟨λ_=>⟨rfl,hall⟩,λh=>by cases h⟩)
theorem ae5{vs:Value}{xs:List nM}{b start:Nat}{az:List (ByteArray×Value)}(hl:xs.length<=4096)(hs:start<=4096)(hnd:(az.map (·.1)).Nodup):
 qH Tryz.prog (.func 219) [vs,.int .i64 (start:Int),.func (.func 220) #[] #[],.map (some b)] [] [gQ jc b az] [ah fo vs xs] (λy:Bool×List ByteArray=>if y.1=true then .ok (.map (some b))else .fQ (tQ 161))
  (λy=>[gQ jc b (az++fE y.2 start)]) (λ_=>[]) (λy=>(y.1=true->y.2=(xs.map nM.name)/\(az.map (·.1)++xs.map nM.name).Nodup)/\(y.1=false->¬(az.map (·.1)++xs.map nM.name).Nodup)):=by
 let nm:nM->ByteArray:=nM.name
 refine y5 _ (aF 219) λB w0=>?_;refine go ?_;rw[show gQ jc b az=gQ jc b (az++fE ((xs.take 0).map nm) start)by simp[fE]];refine aR (λk=>xs.length - k) (λk:Nat=>[(15,.int .i64 (k:Int))]) (λk=>[gQ jc b (az++fE ((xs.take k).map nm) start)]) (λ_=>[]) (λk=>k<=xs.length/\(az.map (·.1)++(xs.take k).map nm).Nodup) 0 ⟨bJ _,by simpa using hnd⟩ (body:=?_);rintro k ⟨hk,hall⟩;refine go ?_;refine ay rfl (λh1=>?_) (λh1=>?_)
 ·refine go ?_;refine aU fo (next:=λ_ _ x y hx=>?_);refine go ?_;intro b10;refine go ?_;refine aj (Vh (x:=x)) (next:=λ_ _=>?_);refine go ?_;refine FK uR (nm x) (λv hv hm=>?_) (λhm=>?_)
  ·refine go ?_;refine CB ?_;refine go ?_;refine Ar (false,(xs.take k).map nm) (hv:=rfl) (hp:=⟨(λh=>by cases h),λ_ hn=>?_⟩);rw[(qf hx).1]at hm;have hsub:(az.map (·.1)++(xs.take k).map nm++[nm x]).Nodup:=by
    have e:xs.map nm=(xs.take k).map nm++nm x::(xs.drop (k+1)).map nm:=by
     conv=>lhs;rw[<- su k xs]
     rw[ed];congr 1;rw[nR (bK.1 hx).1,ik,(bK.1 hx).2]
    rw[e,<- fI]at hn;rw[iq]at hn⊢;exact⟨hn.1,by simp,λa ha c hc=>hn.2.2 a ha c (by rw[bM.1 hc];exact dJ ..)⟩
   rw[iq]at hsub;exact hsub.2.2 _ hm _ (bM.2 rfl) rfl
  refine go ?_;refine aj (Vh (x:=x)) (next:=λ_ _=>?_);refine go ?_;refine xq uR (nm x) (az:=az++fE ((xs.take k).map nm) start) (v:=.int .i64 ((start:Int)+(k:Int))) ?_;have hm2:=hm;rw[(qf hx).1]at hm2;rw[CQ hm,fI,<- (qf (az:=az) hx).2];refine go ?_;refine aD (k+1) (by omega) ⟨by omega,?_⟩;rw[nS,hx,ed,<- fI,iq];refine⟨hall,by simp,λa ha c hc=>?_⟩;have:c=nm x:=by simpa using hc
  subst this;intro e;subst e;exact hm2 ha
 have hkl:k=xs.length:=by omega
 subst hkl;rw[bC]at hall;rw[bC];refine go ?_;exact Aq (true,xs.map nm) (hv:=rfl) (hp:=⟨λ_=>⟨rfl,hall⟩,λh=>by cases h⟩)
theorem ae6{vs:Value}{xs:List mQ}{b start:Nat}{az:List (ByteArray×Value)}(hl:xs.length<=4096)(hs:start<=4096)(hnd:(az.map (·.1)).Nodup):
 qH Tryz.prog (.func 221) [vs,.int .i64 (start:Int),.func (.func 222) #[] #[],.map (some b)] [] [gQ jc b az] [ah fA vs xs] (λy:Bool×List ByteArray=>if y.1=true then .ok (.map (some b))else .fQ (tQ 161))
  (λy=>[gQ jc b (az++fE y.2 start)]) (λ_=>[]) (λy=>(y.1=true->y.2=(xs.map mQ.name)/\(az.map (·.1)++xs.map mQ.name).Nodup)/\(y.1=false->¬(az.map (·.1)++xs.map mQ.name).Nodup)):=by
 let nm:mQ->ByteArray:=mQ.name
 refine y5 _ (aF 221) λB w0=>?_;refine go ?_;rw[show gQ jc b az=gQ jc b (az++fE ((xs.take 0).map nm) start)by simp[fE]];refine aR (λk=>xs.length - k) (λk:Nat=>[(15,.int .i64 (k:Int))]) (λk=>[gQ jc b (az++fE ((xs.take k).map nm) start)]) (λ_=>[]) (λk=>k<=xs.length/\(az.map (·.1)++(xs.take k).map nm).Nodup) 0 ⟨bJ _,by simpa using hnd⟩ (body:=?_);rintro k ⟨hk,hall⟩;refine go ?_;refine ay rfl (λh1=>?_) (λh1=>?_)
 ·refine go ?_;refine aU fA (next:=λ_ _ x y hx=>?_);refine go ?_;intro b10;refine go ?_;refine aj (Vi (x:=x) (v:=y)) (next:=λ_ _=>?_);refine go ?_;refine FK uR (nm x) (λv hv hm=>?_) (λhm=>?_)
  ·refine go ?_;refine CB ?_;refine go ?_;refine Ar (false,(xs.take k).map nm) (hv:=rfl) (hp:=⟨(λh=>by cases h),λ_ hn=>?_⟩);rw[(qf hx).1]at hm;have hsub:(az.map (·.1)++(xs.take k).map nm++[nm x]).Nodup:=by
    have e:xs.map nm=(xs.take k).map nm++nm x::(xs.drop (k+1)).map nm:=by
     conv=>lhs;rw[<- su k xs]
     rw[ed];congr 1;rw[nR (bK.1 hx).1,ik,(bK.1 hx).2]
    rw[e,<- fI]at hn;rw[iq]at hn⊢;exact⟨hn.1,by simp,λa ha c hc=>hn.2.2 a ha c (by rw[bM.1 hc];exact dJ ..)⟩
   rw[iq]at hsub;exact hsub.2.2 _ hm _ (bM.2 rfl) rfl
  refine go ?_;refine aj (Vi (x:=x) (v:=y)) (next:=λ_ _=>?_);refine go ?_;refine xq uR (nm x) (az:=az++fE ((xs.take k).map nm) start) (v:=.int .i64 ((start:Int)+(k:Int))) ?_;have hm2:=hm;rw[(qf hx).1]at hm2;rw[CQ hm,fI,<- (qf (az:=az) hx).2];refine go ?_;refine aD (k+1) (by omega) ⟨by omega,?_⟩;rw[nS,hx,ed,<- fI,iq];refine⟨hall,by simp,λa ha c hc=>?_⟩;have:c=nm x:=by simpa using hc
  subst this;intro e;subst e;exact hm2 ha
 have hkl:k=xs.length:=by omega
 subst hkl;rw[bC]at hall;rw[bC];refine go ?_;exact Aq (true,xs.map nm) (hv:=rfl) (hp:=⟨λ_=>⟨rfl,hall⟩,λh=>by cases h⟩)
theorem ae7{vs:Value}{xs:List jo}{b start:Nat}{az:List (ByteArray×Value)}(hl:xs.length<=4096)(hs:start<=4096)(hnd:(az.map (·.1)).Nodup):
 qH Tryz.prog (.func 226) [vs,.int .i64 (start:Int),.func (.func 227) #[] #[],.map (some b)] [] [gQ jc b az] [ah bI vs xs] (λy:Bool×List ByteArray=>if y.1=true then .ok (.map (some b))else .fQ (tQ 161))
  (λy=>[gQ jc b (az++fE y.2 start)]) (λ_=>[]) (λy=>(y.1=true->y.2=(xs.map jo.name)/\(az.map (·.1)++xs.map jo.name).Nodup)/\(y.1=false->¬(az.map (·.1)++xs.map jo.name).Nodup)):=by
 let nm:jo->ByteArray:=jo.name
 refine y5 _ (aF 226) λB w0=>?_;refine go ?_;rw[show gQ jc b az=gQ jc b (az++fE ((xs.take 0).map nm) start)by simp[fE]];refine aR (λk=>xs.length - k) (λk:Nat=>[(15,.int .i64 (k:Int))]) (λk=>[gQ jc b (az++fE ((xs.take k).map nm) start)]) (λ_=>[]) (λk=>k<=xs.length/\(az.map (·.1)++(xs.take k).map nm).Nodup) 0 ⟨bJ _,by simpa using hnd⟩ (body:=?_);rintro k ⟨hk,hall⟩;refine go ?_;refine ay rfl (λh1=>?_) (λh1=>?_)
 ·refine go ?_;refine aU bI (next:=λ_ _ x y hx=>?_);refine go ?_;intro b10;refine go ?_;refine aj (Vj (x:=x)) (next:=λ_ _=>?_);refine go ?_;refine FK uR (nm x) (λv hv hm=>?_) (λhm=>?_)
  ·refine go ?_;refine CB ?_;refine go ?_;refine Ar (false,(xs.take k).map nm) (hv:=rfl) (hp:=⟨(λh=>by cases h),λ_ hn=>?_⟩);rw[(qf hx).1]at hm;have hsub:(az.map (·.1)++(xs.take k).map nm++[nm x]).Nodup:=by
    have e:xs.map nm=(xs.take k).map nm++nm x::(xs.drop (k+1)).map nm:=by
     conv=>lhs;rw[<- su k xs]
     rw[ed];congr 1;rw[nR (bK.1 hx).1,ik,(bK.1 hx).2]
    rw[e,<- fI]at hn;rw[iq]at hn⊢;exact⟨hn.1,by simp,λa ha c hc=>hn.2.2 a ha c (by rw[bM.1 hc];exact dJ ..)⟩
   rw[iq]at hsub;exact hsub.2.2 _ hm _ (bM.2 rfl) rfl
  refine go ?_;refine aj (Vj (x:=x)) (next:=λ_ _=>?_);refine go ?_;refine xq uR (nm x) (az:=az++fE ((xs.take k).map nm) start) (v:=.int .i64 ((start:Int)+(k:Int))) ?_;have hm2:=hm;rw[(qf hx).1]at hm2;rw[CQ hm,fI,<- (qf (az:=az) hx).2];refine go ?_;refine aD (k+1) (by omega) ⟨by omega,?_⟩;rw[nS,hx,ed,<- fI,iq];refine⟨hall,by simp,λa ha c hc=>?_⟩;have:c=nm x:=by simpa using hc
  subst this;intro e;subst e;exact hm2 ha
 have hkl:k=xs.length:=by omega
 subst hkl;rw[bC]at hall;rw[bC];refine go ?_;exact Aq (true,xs.map nm) (hv:=rfl) (hp:=⟨λ_=>⟨rfl,hall⟩,λh=>by cases h⟩)
theorem ae8{vs:Value}{xs:List bB}{b start:Nat}{az:List (ByteArray×Value)}(hl:xs.length<=4096)(hs:start<=4096)(hnd:(az.map (·.1)).Nodup):
 qH Tryz.prog (.func 230) [vs,.int .i64 (start:Int),.func (.func 231) #[] #[],.map (some b)] [] [gQ jc b az] [ah aZ vs xs] (λy:Bool×List ByteArray=>if y.1=true then .ok (.map (some b))else .fQ (tQ 161))
  (λy=>[gQ jc b (az++fE y.2 start)]) (λ_=>[]) (λy=>(y.1=true->y.2=(xs.map bB.name)/\(az.map (·.1)++xs.map bB.name).Nodup)/\(y.1=false->¬(az.map (·.1)++xs.map bB.name).Nodup)):=by
 let nm:bB->ByteArray:=bB.name
 refine y5 _ (aF 230) λB w0=>?_;refine go ?_;rw[show gQ jc b az=gQ jc b (az++fE ((xs.take 0).map nm) start)by simp[fE]];refine aR (λk=>xs.length - k) (λk:Nat=>[(15,.int .i64 (k:Int))]) (λk=>[gQ jc b (az++fE ((xs.take k).map nm) start)]) (λ_=>[]) (λk=>k<=xs.length/\(az.map (·.1)++(xs.take k).map nm).Nodup) 0 ⟨bJ _,by simpa using hnd⟩ (body:=?_);rintro k ⟨hk,hall⟩;refine go ?_;refine ay rfl (λh1=>?_) (λh1=>?_)
 ·refine go ?_;refine aU aZ (next:=λ_ _ x y hx=>?_);refine go ?_;intro b10;refine go ?_;refine aj (Vk (x:=x) (v1:=y.1) (v2:=y.2)) (next:=λ_ _=>?_);refine go ?_;refine FK uR (nm x) (λv hv hm=>?_) (λhm=>?_)
  ·refine go ?_;refine CB ?_;refine go ?_;refine Ar (false,(xs.take k).map nm) (hv:=rfl) (hp:=⟨(λh=>by cases h),λ_ hn=>?_⟩);rw[(qf hx).1]at hm;have hsub:(az.map (·.1)++(xs.take k).map nm++[nm x]).Nodup:=by
    have e:xs.map nm=(xs.take k).map nm++nm x::(xs.drop (k+1)).map nm:=by
     conv=>lhs;rw[<- su k xs]
     rw[ed];congr 1;rw[nR (bK.1 hx).1,ik,(bK.1 hx).2]
    rw[e,<- fI]at hn;rw[iq]at hn⊢;exact⟨hn.1,by simp,λa ha c hc=>hn.2.2 a ha c (by rw[bM.1 hc];exact dJ ..)⟩
   rw[iq]at hsub;exact hsub.2.2 _ hm _ (bM.2 rfl) rfl
  refine go ?_;refine aj (Vk (x:=x) (v1:=y.1) (v2:=y.2)) (next:=λ_ _=>?_);refine go ?_;refine xq uR (nm x) (az:=az++fE ((xs.take k).map nm) start) (v:=.int .i64 ((start:Int)+(k:Int))) ?_;have hm2:=hm;rw[(qf hx).1]at hm2;rw[CQ hm,fI,<- (qf (az:=az) hx).2];refine go ?_;refine aD (k+1) (by omega) ⟨by omega,?_⟩;rw[nS,hx,ed,<- fI,iq];refine⟨hall,by simp,λa ha c hc=>?_⟩;have:c=nm x:=by simpa using hc
  subst this;intro e;subst e;exact hm2 ha
 have hkl:k=xs.length:=by omega
 subst hkl;rw[bC]at hall;rw[bC];refine go ?_;exact Aq (true,xs.map nm) (hv:=rfl) (hp:=⟨λ_=>⟨rfl,hall⟩,λh=>by cases h⟩)
end Go.Proofs.YtpkieeggilkagaaGreat
namespace Go.Proofs.YtpkieeggilkagaaGreat
open Go.Ideal Kd
noncomputable def N7:gW:=⟨9,[],(.seq (kO [⟨⟨(some 3),none,.recover⟩,[]⟩,kS 2 (.nD 3)]) (.seq (kO [kM 4 2,kS 5 (.bin .neq 20 4 (.const .nilIface))]) (.cond 5 (kO [⟨⟨(some 6),none,(.build [vE,vI,vI,vI,vI,vS,vS,vS,vS,vS] [])⟩,[]⟩,kM 7 2,kS 8 (.Gs 40 vI false 7),kN (.store 10 0 6),kN (.store 1 1 8)]) .skip)))⟩
theorem Vm:nV Tryz.prog 218=some N7:=by kernel_rfl
section
variable {P:Program} {B:List Nat} {w0:Wd} {kl kl':List OA} {F:List aL} {K:KO} {ds:List Tmp} {rest:List bT} {n:Nat} {l:List (Nat×Value)} {D:List Deferred} {pm:Option FrameMode} {ro:Option Nat} {d:Nat} {g:Option (Tmp×Bool)}
theorem Vn{α:Type}[DecidableEq α]{bz:α->Value}{kt:TypeId}{zero:Value}{m k:Operand}{b:Nat}{az:List (α×Value)}(hk:rP P kt bz)(a:α)
 (hit:∀v,dL a az=some v->a∈az.map (·.1)->R (λh=>aK P ds rest (act n ((d,.tuple ⟨[v,.bool true]⟩)::l) D pm ro) h K) B w0 kl F)
 (miss:a∉az.map (·.1)->R (λh=>aK P ds rest (act n ((d,.tuple ⟨[zero,.bool false]⟩)::l) D pm ro) h K) B w0 kl F)
 (hm:ev l m=.map (some b):=by rfl) (ha:ev l k=bz a:=by conv=>lhs;whnf) (hf:xm bz b az∈F:=by exact vL) (hn:Nat.blt d n=true:=by rfl) (hg:bW l g=true:=by rfl):
 R (λh=>aK P ds (⟨⟨some d,g,.lookup kt zero m k true⟩,[]⟩::rest) (act n l D pm ro) h K) B w0 kl F:=by
 refine SN (ok:=true) hk a ?_ hm ha hf hn hg;by_cases h:a∈az.map (·.1)
 ·obtain⟨v,hv⟩:=Fs h;have e:kW true zero a az=.tuple ⟨[v,.bool true]⟩:=by unfold kW;rw[hv];rfl
  rw[e];exact hit v hv h
 ·have e:kW true zero a az=.tuple ⟨[zero,.bool false]⟩:=by unfold kW;rw[rQ h];rfl
  rw[e];exact miss h
theorem N8{α:Type}(E:Enc α){v:Value}{aO:List (α×E.Y)}{Q:IH->Prop}(h0:aO=[]->∀c,v=.slice none 0 c->R Q B w0 kl F)(h1:aO=[]->∀i o f c,v=.slice (some ⟨i,o,some f⟩) 0 c->R Q B w0 kl F)
 (h2:0<aO.length->∀i o f c,v=.slice (some ⟨i,o,some f⟩) aO.length c->R Q B w0 kl F) (hf:tq E v aO∈F:=by exact vL):R Q B w0 kl F:=λw s=>by
 rcases s.facts _ hf with⟨e,a,c,hv,hg⟩|⟨i,o,f,c,cells,⟨hv,_⟩,_⟩
 ·match a,hv,hg with
  |none,hv,_=>exact h0 e c hv w s
  |some ⟨i,o,some f⟩,hv,_=>exact h1 e i o f c hv w s
 ·by_cases hx:aO=[]
  ·subst hx;exact h1 rfl i o f c hv w s
  ·exact h2 (Dx.2 hx) i o f c hv w s
theorem N9{α:Type}(E:Enc α){Q:IH->Prop}(h:R Q B w0 (ar E (.slice none 0 0) []::kl) F):R Q B w0 kl F:=λw s=>by
 obtain⟨S,h1,h2,h3⟩:=s.own;exact h w ⟨s.agree,s.le,s.gp,⟨S,⟨[],S,.inl ⟨rfl,⟨none,rfl,trivial⟩,rfl⟩,h1,rfl⟩,h2,h3⟩,s.facts⟩
end
theorem ae9:aV Tryz.prog (.func 224) [] [] [] [] (λv:Value=>v) (λ_=>[]) (λv=>[ah bF v iQ]) (λ_=>True):=by
 refine aC Vg ae3 λB w0=>?_;refine go ?_;intro b;refine go ?_;refine uN (b:=b) (m:=8) (f:=0) bF (aO:=iQ.map λs=>(s,())) rfl (.inl rfl) ?_ (hk:=aA.here);refine I1 (E:=bF) ?_ (λw hw p hp f hf=>by cases hf);exact ae (.slice (some ⟨b,0,some 0⟩) 8 8) (hv:=rfl) (hp:=trivial) (hF:=.cons (dN _ (dJ ..)) .nil)
theorem JF{b:Nat}{s:ByteArray}{az:List (ByteArray×Value)}:
 qH Tryz.prog (.func 229) [.map (some b),.string s] [] [] [xm jc b az] (λy:Option Value=>match y with|some v=>.ok v|none=>.fQ (tQ 160)) (λ_=>[]) (λ_=>[]) (λy=>y=dL s az):=by
 refine y5 _ (aF 229) λB w0=>?_;refine go ?_;refine Vn uR s (λv hv hm=>?_) (λhm=>?_)
 ·refine go ?_;exact Aq (some v) (hv:=rfl) (hp:=hv.symm)
 ·refine go ?_;refine CB ?_;refine go ?_;exact Ar none (hv:=rfl) (hp:=(rQ hm).symm)
theorem Vo{cZ l:List ByteArray}{k:Nat}{s:ByteArray}(h:l[k]? =some s):fO cZ (l.take (k+1))=fO cZ (l.take k)|||1<<<dY s cZ:=by
 unfold fO;rw[nS,h,BF];rfl
theorem Oa{cZ:List ByteArray}(hs:cZ.length<=16):∀(l:List ByteArray) (m:Nat),(∀s∈l,s∈cZ)->m<65536->l.foldl (λm s=>m|||1<<<dY s cZ) m<65536
 |[],m,_,hm=>hm
 |s::l,m,h,hm=>by
  rw[qZ];refine Oa hs l _ (λx hx=>h x (dN _ hx)) ?_;have h1:=xB (h s (dJ ..));have h2:1<<<dY s cZ<2^16:=by
   rw[DD,ug];exact Gm (by omega) (by omega)
  exact Kn (n:=16) hm h2
theorem Vp{b4 bs:Nat}{vl:Value}{cZ l:List ByteArray}(hs:cZ.length<=16)(hl:l.length<9223372036854775808):
 qH Tryz.prog (.func 233) [vl] [ptr' b4] [] [bZ b4 0 [.map (some bs)],xm jc bs (fE cZ 0),ah bF vl l] (λy:Bool=>if y=true then .ok (.int .i64 (fO cZ l:Int))else .fQ (tQ 160)) (λ_=>[]) (λ_=>[])
  (λy=>(y=true->∀s∈l,s∈cZ)/\(y=false->¬∀s∈l,s∈cZ)):=by
 refine y5 _ (aF 233) λB w0=>?_;refine go ?_;refine aR (λk=>l.length - k) (λk:Nat=>[(8,.int .i64 (k:Int)),(3,.int .i64 (fO cZ (l.take k):Int))]) (λ_=>[]) (λ_=>[]) (λk=>k<=l.length/\∀s∈l.take k,s∈cZ) 0 ⟨bJ _,by simp⟩ (body:=?_);rintro k ⟨hk,hall⟩;refine go ?_;refine ay rfl (λh1=>?_) (λh1=>?_)
 ·refine go ?_;refine aU bF (next:=λ_ _ x (y:Unit) hx=>?_);refine go ?_;refine uM (JF (b:=bs) (s:=x) (az:=fE cZ 0)) (λy v hy e=>?_) (λy ch hy e=>?_)
  ·have hm:x∈cZ:=by
    by_cases h:x∈cZ
    ·exact h
    ·rw[rQ (by rw[tK];exact h)]at hy;subst hy;cases e
   rw[xD hm]at hy;subst hy;injection e with e;subst e;have hp:=xB hm;have h2:1<<<dY x cZ<2^16:=by
    rw[DD,ug];exact Gm (by omega) (by omega)
   have h3:=Oa hs (l.take k) 0 hall (by omega);rw[fC];refine(gH rfl rfl (IL (a:=1) (b:=dY x cZ) rfl rfl (by omega) (by omega))).h ?_;refine(gH rfl rfl (MI (a:=fO cZ (l.take k)) (b:=1<<<dY x cZ) rfl rfl (Nat.lt_trans h3 (by omega)) (by omega))).h ?_;refine go ?_;refine aD (k+1) (by omega) ⟨by omega,λs hs'=>?_⟩ (hl:=⟨rfl,by rw[Vo hx];rfl,by repeat (first|exact trivial|refine⟨rfl,?_⟩)⟩);rw[nS,hx]at hs';rcases dB.1 hs' with h|h
   ·exact hall s h
   ·have:s=x:=by simpa using h
    rw[this];exact hm
  ·refine go ?_;have hm:x∉cZ:=by
    intro h;rw[xD h]at hy;subst hy;cases e
   have hch:ch=tQ 160:=by
    rw[rQ (by rw[tK];exact hm)]at hy;subst hy;injection e with e;exact e.symm
   subst hch;exact Ar false (hv:=rfl) (hp:=⟨(λh=>by cases h),λ_ h=>hm (h x (aP hx))⟩)
 have hkl:k=l.length:=by omega
 subst hkl;rw[bC]at hall⊢;refine go ?_;exact Aq true (hv:=rfl) (hp:=⟨λ_=>hall,λh=>by cases h⟩)
theorem afa{v:Value}{aO:List (jo×bI.Y)}(hl:aO.length<=4096):aV Tryz.prog (.func 228) [v] [] [] [tq bI v aO] (λv':Value=>v') (λv'=>[ar bI v' aO]) (λ_=>[]) (λ_=>True):=by
 refine aC _ (aF 228) λB w0=>?_;refine N8 (v:=v) (aO:=aO) bI (λe c ev=>?_) (λe i o f c ev=>?_) (λhne i o f c ev=>?_)
 ·subst e ev;refine go ?_;refine(gH rfl rfl (I4 (e:=110) (by kernel_rfl) rfl)).h ?_;refine go ?_;refine N9 bI ?_;exact ae (.slice none 0 0) (hv:=rfl) (hp:=trivial)
 ·subst e ev;refine go ?_;refine(gH rfl rfl (CJ (e:=110) (by kernel_rfl) rfl)).h ?_;refine go ?_;intro b;refine go ?_;refine M7 (b:=b) ?_;refine go ?_;refine uN (b:=b) (m:=0) (f:=0) bI (aO:=[]) rfl (.inl rfl) ?_ (hk:=aA.here);exact ae (.slice (some ⟨b,0,some 0⟩) 0 0) (hv:=rfl) (hp:=trivial)
 ·subst ev;refine go ?_;refine(gH rfl rfl (CJ (e:=110) (by kernel_rfl) rfl)).h ?_;refine go ?_;intro b;refine go ?_;refine M8 (b:=b) bI aO hne (by omega) (λb'=>?_);refine go ?_;refine uN (b:=b') (m:=aO.length) (f:=bI.n) bI (aO:=aO) rfl (.inr rfl) ?_ (hk:=aA.here);exact ae (.slice (some ⟨b',0,some bI.n⟩) aO.length aO.length) (hv:=rfl) (hp:=trivial)
theorem afb{v:Value}{aO:List (bB×aZ.Y)}(hl:aO.length<=4096):aV Tryz.prog (.func 232) [v] [] [] [tq aZ v aO] (λv':Value=>v') (λv'=>[ar aZ v' aO]) (λ_=>[]) (λ_=>True):=by
 refine aC _ (aF 232) λB w0=>?_;refine N8 (v:=v) (aO:=aO) aZ (λe c ev=>?_) (λe i o f c ev=>?_) (λhne i o f c ev=>?_)
 ·subst e ev;refine go ?_;refine(gH rfl rfl (I4 (e:=71) (by kernel_rfl) rfl)).h ?_;refine go ?_;refine N9 aZ ?_;exact ae (.slice none 0 0) (hv:=rfl) (hp:=trivial)
 ·subst e ev;refine go ?_;refine(gH rfl rfl (CJ (e:=71) (by kernel_rfl) rfl)).h ?_;refine go ?_;intro b;refine go ?_;refine M7 (b:=b) ?_;refine go ?_;refine uN (b:=b) (m:=0) (f:=0) aZ (aO:=[]) rfl (.inl rfl) ?_ (hk:=aA.here);exact ae (.slice (some ⟨b,0,some 0⟩) 0 0) (hv:=rfl) (hp:=trivial)
 ·subst ev;refine go ?_;refine(gH rfl rfl (CJ (e:=71) (by kernel_rfl) rfl)).h ?_;refine go ?_;intro b;refine go ?_;refine M8 (b:=b) aZ aO hne (by omega) (λb'=>?_);refine go ?_;refine uN (b:=b') (m:=aO.length) (f:=aZ.n) aZ (aO:=aO) rfl (.inr rfl) ?_ (hk:=aA.here);exact ae (.slice (some ⟨b',0,some aZ.n⟩) aO.length aO.length) (hv:=rfl) (hp:=trivial)
end Go.Proofs.YtpkieeggilkagaaGreat
set_option maxHeartbeats 4000000
namespace Go.Proofs.YtpkieeggilkagaaGreat
open Go.Ideal Kd
noncomputable def JG:gW:=⟨128,[(.qz 10 2),(.cell1 3)],(.seq (kO [kS 1 (.box 0 28),⟨⟨(some 2),none,(.new [vE,vI,vI,vI,vI,vS,vS,vS,vS,vS] 28)⟩,[]⟩,kS 3 (.new [vI] 40)]) (.seq (kO [kS 11 (.BH (.func 218) [] [2,3]),kN (.dcall 11 [])]) (.seq (.seq (kO [kS 12 (.fP 6 1),kS 13 (.gT 12),kS 14 (.wE 13),kS 15 (.bin .gtr 3 14 (kI 16))]) (.cond 15 (.seq (kO [kS 16 (.qw 10 2),kN (.store 10 2 16),kN (.store 1 3 (kI 2))]) .ret) .skip)) (.seq (kO [kS 17 (.fP 6 1),kS 18 (.gT 17),⟨⟨(some 19),none,.vB⟩,[]⟩,kS 20 (kC 219 [18,(kI 0),(.func 220),19]),kS 4 (.new [(.map none)] 217),kN (.store 1 4 20)]) (.seq (.ops [21,22,23,24,25,26,5] [kS 21 (.fP 7 1),kS 22 (.gT 21),⟨⟨(some 24),none,.vB⟩,[]⟩,⟨⟨(some 23),none,(kC 224 [])⟩,[⟨(some 22),none,(.gT 21)⟩]⟩,⟨⟨(some 25),none,(kC 223 [23,(kI 0),(.func 225),24])⟩,[⟨(some 22),none,(.gT 21)⟩]⟩,kS 26 (kC 221 [22,(kI 8),(.func 222),25]),kS 5 (.nD 26)]) (.seq (kO [kS 27 (.fP 8 1),kS 28 (.gT 27),⟨⟨(some 29),none,.vB⟩,[]⟩,kS 30 (kC 226 [28,(kI 0),(.func 227),29]),kS 6 (.nD 30)]) (.seq (kO [kS 31 (.fP 8 1),kS 32 (.gT 31),kS 33 (kC 228 [32]),kS 34 (.fP 8 1),kN (.store 1 34 33)]) (.seq (.seq (kO [kS 35 (.fP 8 1),kS 36 (.gT 35),kS 37 (.wE 36),kS 38 (.mv (kI 0))]) (.block 0 (.loop (.seq (kO [kS 39 (.bin .lss 3 38 37)]) (.seq (.cond 39 .skip (.exit 0)) (.seq (.block 1 (.seq (kO [kM 40 38,kS 7 (.nD 40)]) (.ops [41,42,43,44,45,46,47,48,49,50,51,52,53] [kS 41 (.fP 8 1),kS 42 (.gT 41),kM 43 7,kM 44 5,kS 45 (.fP 8 1),kS 46 (.gT 45),kM 47 7,kS 48 (.nT 6 46 47),kS 49 (.fP 1 48),kS 50 (.gT 49),⟨⟨(some 51),none,(kC 229 [44,50])⟩,[⟨(some 42),none,(.gT 41)⟩]⟩,kS 52 (.nT 6 42 43),kS 53 (.fP 2 52),kN (.store 1 53 51)]))) (kO [kS 54 (.bin .add 3 38 (kI 1)),kM 38 54]))))))) (.seq (kO [kS 55 (.fP 9 1),kS 56 (.gT 55),⟨⟨(some 57),none,.vB⟩,[]⟩,kS 58 (kC 230 [56,(kI 0),(.func 231),57])]) (.seq (kO [kS 59 (.fP 9 1),kS 60 (.gT 59),kS 61 (kC 232 [60]),kS 62 (.fP 9 1),kN (.store 1 62 61)]) (.seq (kO [kS 63 (.BH (.func 233) [] [4]),kS 8 (.nD 63)]) (.seq (.seq (kO [kS 64 (.fP 9 1),kS 65 (.gT 64),kS 66 (.wE 65),kS 67 (.mv (kI 0))]) (.block 2 (.loop (.seq (kO [kS 68 (.bin .lss 3 67 66)]) (.seq (.cond 68 .skip (.exit 2)) (.seq (.block 3 (.seq (kO [kM 69 67,kS 9 (.nD 69)]) (.seq (kO [kS 70 (.fP 9 1),kS 71 (.gT 70),kM 72 9,kS 73 (.nT 12 71 72),kS 10 (.nD 73)]) (.seq (kO [kM 74 10,kM 75 10,kS 76 (.lc 74),kS 77 (.fP 3 76),kN (.store 1 77 (kI 0)),kS 78 (.lc 75),kS 79 (.fP 11 78),kN (.store 1 79 (.const (.int .i64 (-1))))]) (.seq (.seq (kO [kM 80 10,kS 81 (.lc 80),kS 82 (.fP 1 81),kS 83 (.gT 82),⟨⟨(some 84),none,(.bin .neq 9 83 (.const vE))⟩,[]⟩]) (.cond 84 (kO [kM 85 10,kM 86 5,kM 87 10,kS 88 (.lc 87),kS 89 (.fP 1 88),kS 90 (.gT 89),kS 91 (kC 229 [86,90]),kS 92 (.lc 85),kS 93 (.fP 3 92),kN (.store 1 93 91)]) .skip)) (.seq (.ops [94,95,96,97,98,99,100,101,102,103,104,105,106,107,108,109,110,111] [kM 94 10,kM 95 10,kM 96 8,kM 97 10,kS 98 (.lc 97),kS 99 (.fP 4 98),kS 100 (.gT 99),kM 102 8,kM 103 10,kS 104 (.lc 103),kS 105 (.fP 5 104),kS 106 (.gT 105),⟨⟨(some 101),none,(.call 96 [100])⟩,[⟨(some 106),none,(.gT 105)⟩]⟩,kS 107 (.call 102 [106]),kS 108 (.lc 94),kS 109 (.fP 6 108),kN (.store 1 109 101),kS 110 (.lc 95),kS 111 (.fP 7 110),kN (.store 1 111 107)]) (.seq (kO [kM 112 10,kS 113 (.lc 112),kS 114 (.fP 10 113),kS 115 (.gT 114),⟨⟨(some 116),none,(.bin .neq 9 115 (.const vE))⟩,[]⟩]) (.cond 116 (kO [kM 117 10,kM 118 6,kM 119 10,kS 120 (.lc 119),kS 121 (.fP 10 120),kS 122 (.gT 121),kS 123 (kC 229 [118,122]),kS 124 (.lc 117),kS 125 (.fP 11 124),kN (.store 1 125 123)]) .skip)))))))) (kO [kS 126 (.bin .add 3 67 (kI 1)),kM 67 126]))))))) (.seq (kO [kS 127 (.qw 10 1),kN (.store 10 2 127),kN (.store 1 3 (kI 0))]) .ret)))))))))))))⟩
theorem afc:nV Tryz.prog 182=some JG:=by kernel_rfl
theorem eO(a b:ByteArray):(a.toList==b.toList)=decide (a=b):=by
 rw[ByteArray.toList_eq,ByteArray.toList_eq];by_cases h:a=b
 ·subst h;simp
 ·rw[aS h];cases hb:a.data.toList==b.data.toList with
  |false=>rfl
  |true=>
   have:=eq_of_beq hb;exact absurd (ByteArray.ext (Array.ext' this)) h
abbrev vX:List Value:=[.string ⟨⟨[]⟩⟩,.int .i64 0,.int .i64 0,.int .i64 0,.int .i64 0,.slice none 0 0,.slice none 0 0,.slice none 0 0,.slice none 0 0,.slice none 0 0]
theorem afd{b2 b3:Nat}:IX Tryz.prog (.func 218) [] [ptr' b2,ptr' b3] .returning [] [] (λ_:Unit=>.ok (.tuple ⟨[]⟩)) (λ_=>.returning) (λ_=>[]) (λ_=>[]) (λ_=>True):=by
 refine Sr N7 Vm λB w0=>?_;refine go ?_;refine Su (v:=.nilIface) (m':=.returning) rfl ?_;refine go ?_;refine(gH (v:=.bool false) rfl rfl (λh=>by
  show(match l8 Tryz.prog .neq 20 (.tmp 4) (.const .nilIface) .nilIface .nilIface with|some v=>some (v,h)|none=>none)=_;rw[show l8 Tryz.prog .neq 20 (.tmp 4) (.const .nilIface) .nilIface .nilIface=some (.bool false)by kernel_rfl])).h ?_
 refine go ?_;exact Sy () (hv:=rfl) (hm:=rfl) (hp:=trivial)
theorem afe{b2 b3:Nat}{e:Int}(he:e=160\/e=161):IX Tryz.prog (.func 218) [] [ptr' b2,ptr' b3] (.panicking (tQ e)) [pt b2 (.cells vX),pt b3 (.cells [.int .i64 0])] [] (λ_:Unit=>.ok (.tuple ⟨[]⟩)) (λ_=>.panicking [{v:=.iface 40 (.int .i64 e),recovered:=true}])
 (λ_=>[pt b2 (.cells vX),pt b3 (.cells [.int .i64 e])]) (λ_=>[]) (λ_=>True):=by
 refine Sr N7 Vm λB w0=>?_;refine go ?_;refine Su (v:=.iface 40 (.int .i64 e)) (m':=.panicking [{v:=.iface 40 (.int .i64 e),recovered:=true}]) rfl ?_;refine go ?_;refine(gH (v:=.bool true) rfl rfl (λh=>by
  show(match l8 Tryz.prog .neq 20 (.tmp 4) (.const .nilIface) (.iface 40 (.int .i64 e)) .nilIface with|some v=>some (v,h)|none=>none)=_;rcases he with rfl|rfl
  ·rw[show l8 Tryz.prog .neq 20 (.tmp 4) (.const .nilIface) (.iface 40 (.int .i64 160)) .nilIface=some (.bool true)by kernel_rfl]
  ·rw[show l8 Tryz.prog .neq 20 (.tmp 4) (.const .nilIface) (.iface 40 (.int .i64 161)) .nilIface=some (.bool true)by kernel_rfl])).h ?_
 refine go ?_;exact Sy () (hv:=rfl) (hm:=rfl) (hp:=trivial)
structure FL where
 ok:Bool
 e:Int
 vc:Value
 vu:Value
abbrev rT(d:bG)(vh vs vr:Value)(y:FL):Value:=.tuple ⟨[.agg ⟨cond y.ok (gI (Kd.bH d) vh vs vr y.vc y.vu) vX⟩,.int .i64 y.e]⟩
abbrev oO(d:bG)(y:FL):List aL:=cond y.ok [ah bI y.vc (Kd.bH d).aM,ah aZ y.vu (Kd.bH d).rules] []
def AY(d:bG)(y:FL):Prop:=(y.ok=true->y.e=0/\CR d)/\(y.ok=false->y.e≠0/\¬CR d)
structure mZ(d:bG):Prop where
 cZ:d.symbols.length<=4096
 regs:d.regions.length<=4096
 jB:d.aM.length<=4096
 jP:d.rules.length<=4096
 vY:∀r∈d.rules,r.names.length<9223372036854775808/\r.others.length<9223372036854775808
 holes:d.holes.length<9223372036854775808
 vZ:∀r∈d.regions,r.lists.length<9223372036854775808/\∀l∈r.lists,l.length<9223372036854775808
section
variable {B:List Nat} {w0:Wd} {kl bA:List OA} {F:List aL} {l:List (Nat×Value)} {b2 b3:Nat} {n:Nat}
theorem xS{d:bG}{vh vs vr:Value}{e:Int}(he:e=160\/e=161)(hno:¬CR d)(h2:lk l 2=ptr' b2)(h3:lk l 3=ptr' b3)(hk:aJ [pt b2 (.cells vX),pt b3 (.cells [.int .i64 0])] kl bA):
 R (λh=>qE Tryz.prog JG (Ap B w0 (λy=>.ok (rT d vh vs vr y)) (λ_=>[]) (oO d) (AY d)) (.panic (tQ e)) (act n l [{target:=.fn (.func 218) ⟨[ptr' b2,ptr' b3]⟩,args:=⟨[]⟩}] none none) h) B w0 kl F:=by
 refine E5 (m:=.panicking (tQ e)) ?_;refine Sv (bA:=bA) (dX:=λ_=>[pt b2 (.cells vX),pt b3 (.cells [.int .i64 e])]++bA) (F2:=λ_=>F) (afe (b2:=b2) (b3:=b3) he) (λy v _ _=>?_) (λy ch _ hc=>by cases hc) (hk:=hk) (hF:=.nil) (hk2:=λ_=>aY.app) (hF2:=λ_=>aY.nil);show RL _ _ _ _ .returning _ _ _ _ _;refine Sz (bA:=[pt b2 (.cells vX),pt b3 (.cells [.int .i64 e])]++bA) (vs:=[.agg ⟨vX⟩,.int .i64 e]) ⟨false,e,.nilFunc,.nilFunc⟩ rfl ⟨(λh=>by cases h),λ_=>⟨by rcases he with rfl|rfl<;>simp,hno⟩⟩ (hr:=?_) (hk:=.nil) (hF:=.nil);show RS l _ [.qz 10 2,.cell1 3] _;exact .qz h2 .here rfl (.cell1 h3 (.there .here) rfl .nil)
end
section
variable {B:List Nat} {w0:Wd} {kl bA:List OA} {F:List aL} {l:List (Nat×Value)} {b2 b3:Nat} {n:Nat}
theorem Vq{d:bG}{vh vs vr:Value}{o:Out}{cs:List Value}{e:Int}(y:FL)(ho:uw o=some .returning)(hcs:cs=cond y.ok (gI (Kd.bH d) vh vs vr y.vc y.vu) vX)(hl:cs.length=10)(hy:y.e=e)(hp:AY d y)(hF:∀w,(∀f∈F,f.p w)->∀f∈oO d y,f.p w)(h2:lk l 2=ptr' b2)(h3:lk l 3=ptr' b3)(hk:aJ [pt b2 (.cells cs),pt b3 (.cells [.int .i64 e])] kl bA):
 R (λh=>qE Tryz.prog JG (Ap B w0 (λy=>.ok (rT d vh vs vr y)) (λ_=>[]) (oO d) (AY d)) o (act n l [{target:=.fn (.func 218) ⟨[ptr' b2,ptr' b3]⟩,args:=⟨[]⟩}] none none) h) B w0 kl F:=by
 refine E5 (m:=.returning) ?_ ho;refine Sv (k1:=[]) (bA:=kl) (dX:=λ_=>kl) (F2:=λ_=>F) (afd (b2:=b2) (b3:=b3)) (λ_ v _ _=>?_) (λ_ ch _ hc=>by cases hc) (hk:=.nil) (hF:=.nil) (hk2:=λ_=>aY.nil) (hF2:=λ_=>aY.nil);show RL _ _ _ _ .returning _ _ _ _ _;intro w s;have s':St B w0 ([pt b2 (.cells cs),pt b3 (.cells [.int .i64 e])]++bA) (oO d y) w:=by
  have:=s.jH hk;exact⟨this.agree,this.le,this.gp,this.own,hF w this.facts⟩
 refine Sz (F:=oO d y) (bA:=[pt b2 (.cells cs),pt b3 (.cells [.int .i64 e])]++bA) (vs:=[.agg ⟨cs⟩,.int .i64 e]) y ?_ hp (hr:=?_) (hk:=.nil) (hF:=?_) w s'
 ·show ja.ok (rT d vh vs vr y)=_;unfold rT;rw[<- hcs,hy];rfl
 ·show RS l _ [.qz 10 2,.cell1 3] _;exact .qz h2 .here (by rw[rD,sJ,DC,if_pos (by omega),<- hl,bC]) (.cell1 h3 (.there .here) rfl .nil)
 ·have:∀k:List aL,Sub k k:=λk=>by
   have:=Sub.refl' k [];simpa using this
  exact this _
end
theorem Da{X:List (bB×aZ.Y)}{k:Nat}(hk:k<X.length){q q':bB×aZ.Y}{j:Nat}{v:Value}(h:(aZ.pat q.1 q.2).set j v=aZ.pat q'.1 q'.2)(hj:j<12):(gB aZ (X.set k q)).set (0+k*12+j) v=gB aZ (X.set k q'):=by
 rw[fC];have:=M5 (E:=aZ) (aO:=X.set k q) (k:=k) (p:=q) (p':=q') (by rw[uj,if_pos rfl,if_pos hk]) h hj;rw[List.set_set]at this;exact this
theorem AZ{X:List (bB×aZ.Y)}{k:Nat}(hk:k<X.length){q:bB×aZ.Y}{j:Nat}{u:Value}(h:(aZ.pat q.1 q.2)[j]? =some u):(gB aZ (X.set k q))[0+k*12+j]? =some u:=by
 rw[fC];exact Aw (E:=aZ) (aO:=X.set k q) (k:=k) (by rw[uj,if_pos rfl,if_pos hk]) h
theorem Db{X:List (bB×aZ.Y)}{k:Nat}(hk:k<X.length){q:bB×aZ.Y}{j:Nat}(hj:j<12):0+k*12+j<(gB aZ (X.set k q)).length:=by
 rw[Fe,um];show 0+k*12+j<X.length*12;omega
theorem Vr{d:bG}{vh vs vr vc vu:Value}(hS:mZ d):aV Tryz.prog (.func 182) [.agg ⟨gI d vh vs vr vc vu⟩] [] [] (mi d vh vs vr vc vu) (rT d vh vs vr) (λ_=>[]) (oO d) (AY d):=by
 refine qH.toC _ ?_ (λ_ _=>rfl);have hsl:=hS.cZ;have hrl:=hS.regs;have hcl:=hS.jB;have rU:=hS.jP;refine y5 JG afc λB w0=>?_;refine go ?_;intro b1 b2 b3;refine go ?_;refine acr ?_;refine go ?_;refine ay rfl (λh1=>?_) (λh1=>?_)
 ·refine go ?_;exact Vq (e:=2) (cs:=vX) ⟨false,2,.nilFunc,.nilFunc⟩ rfl rfl rfl rfl ⟨(λh=>by cases h),λ_=>⟨by simp,λh=>by have:=h.cZ;omega⟩⟩ (λw _ f hf=>by cases hf) rfl rfl (by repeat (first|exact aJ.nil|(apply aJ.cons;(focus (repeat (first|exact aA.here|apply aA.there))))))
 have hsy:(bP d).length<=16:=by show(d.symbols.map (·.name)).length<=16;rw[dV];omega
 refine go ?_;refine y7 jc (λbs=>?_);refine go ?_;refine uM (ae5 (b:=bs) (start:=0) (az:=[]) hsl (by omega) wz) (λy v hy e=>?_) (λy ch hy e=>?_)
 rotate_left
 ·obtain⟨y,ns⟩:=y;cases y with
  |true=>cases e
  |false=>
   injection e with e;subst e;refine go ?_;exact xS (e:=161) (.inr rfl) (λh=>hy.2 rfl (by simpa[bP]using h.TK)) rfl rfl (by repeat (first|exact aJ.nil|(apply aJ.cons;(focus (repeat (first|exact aA.here|apply aA.there))))))
 obtain⟨y,ns⟩:=y;cases y with
 |false=>cases e
 |true=>
 injection e with e;subst e;have hns:ns=bP d:=(hy.1 rfl).1;have hsn:(bP d).Nodup:=by have:=(hy.1 rfl).2;simpa[bP]using this
 clear hy;subst hns;dsimp only;rw[show([]:List (ByteArray×Value))++fE _ 0=fE _ 0 from rfl];refine aW (CE (b:=bs)) (h:=?_);refine go ?_;intro b4;refine go ?_;refine y7 jc (λbf=>?_);refine aj ae9 (next:=λvg _=>?_);refine uM (ae4 (b:=bf) (xs:=iQ) (start:=0) (az:=[]) (by decide) (by omega) wz) (λy v hy e=>?_) (λy ch hy e=>?_)
 rotate_left
 ·obtain⟨y,ns⟩:=y;cases y with
  |true=>cases e
  |false=>exact absurd (by decide) (hy.2 rfl)
 obtain⟨y,ns⟩:=y;cases y with
 |false=>cases e
 |true=>
 injection e with e;subst e;have hns:ns=iQ:=(hy.1 rfl).1;clear hy;subst hns;dsimp only;rw[show([]:List (ByteArray×Value))++fE _ 0=fE _ 0 from rfl];refine uM (ae6 (b:=bf) (start:=8) (az:=fE iQ 0) hrl (by omega) (by rw[tK];decide)) (λy v hy e=>?_) (λy ch hy e=>?_)
 rotate_left
 ·obtain⟨y,ns⟩:=y;cases y with
  |true=>cases e
  |false=>
   injection e with e;subst e;refine go ?_;exact xS (e:=161) (.inr rfl) (λh=>hy.2 rfl (by rw[tK];exact h.TL)) rfl rfl (by repeat (first|exact aJ.nil|(apply aJ.cons;(focus (repeat (first|exact aA.here|apply aA.there))))))
 obtain⟨y,ns⟩:=y;cases y with
 |false=>cases e
 |true=>
 injection e with e;subst e;have hns:ns=d.regions.map mQ.name:=(hy.1 rfl).1;have hfn:(bX d).Nodup:=by have:=(hy.1 rfl).2;rw[tK]at this;exact this
 clear hy;subst hns;dsimp only;have hfe:fE iQ 0++fE (d.regions.map mQ.name) 8=fE (bX d) 0:=by
  unfold bX;rw[Nq];rfl
 rw[hfe];clear hfe;refine aW (CE (b:=bf)) (h:=?_);refine go ?_;refine y7 jc (λbc=>?_);refine go ?_;refine uM (ae7 (b:=bc) (start:=0) (az:=[]) hcl (by omega) wz) (λy v hy e=>?_) (λy ch hy e=>?_)
 rotate_left
 ·obtain⟨y,ns⟩:=y;cases y with
  |true=>cases e
  |false=>
   injection e with e;subst e;refine go ?_;exact xS (e:=161) (.inr rfl) (λh=>hy.2 rfl (by simpa[dM]using h.TM)) rfl rfl (by repeat (first|exact aJ.nil|(apply aJ.cons;(focus (repeat (first|exact aA.here|apply aA.there))))))
 obtain⟨y,ns⟩:=y;cases y with
 |false=>cases e
 |true=>
 injection e with e;subst e;have hns:ns=dM d:=(hy.1 rfl).1;have hcn:(dM d).Nodup:=by have:=(hy.1 rfl).2;simpa[dM]using this
 clear hy;subst hns;dsimp only;rw[show([]:List (ByteArray×Value))++fE _ 0=fE _ 0 from rfl];refine aW (CE (b:=bc)) (h:=?_);refine go ?_;refine M6 bI vc (λxc Dc=>?_);have hxl:xc.length=d.aM.length:=by rw[<- Dc,dV]
 refine aj (afa (aO:=xc) (by omega)) (next:=λv1 _=>?_);refine Tc (E:=bI) (v:=v1) (aO:=xc) (λa1 e1=>?_);subst e1;refine go ?_;let f1:jo×bI.Y->jo×bI.Y:=λp=>(lW (bX d) p.1,p.2)
 rw[show ar bI (.slice a1 xc.length xc.length) xc=ar bI (.slice a1 xc.length xc.length) (jI f1 0 xc)from rfl];refine aR (λk=>xc.length - k) (λk:Nat=>[(38,.int .i64 (k:Int))]) (λk=>[ar bI (.slice a1 xc.length xc.length) (jI f1 k xc)]) (λ_=>[]) (λk=>k<=xc.length/\∀p∈xc.take k,p.1.on∈bX d) 0 ⟨bJ _,by simp⟩ (body:=?_);rintro k ⟨hk,hall⟩;refine go ?_;refine ay rfl (λh2=>?_) (λh2=>?_)
 ·refine go ?_;refine Ta (E:=bI) (aO:=jI f1 k xc) (by rw[y9];omega) (λbx fx hfx ev=>?_);injection ev with ea _ _;subst ea;refine go ?_;obtain⟨p,hp⟩:∃p,xc[k]? =some p:=⟨xc[k]'(by omega),bN _⟩
  have hget:(jI f1 k xc)[k]? =some p:=by rw[TQ _ (by omega)];exact hp
  have kT:p.1∈d.aM:=by rw[<- Dc];exact Ko (aP hp)
  refine qG (o:=0+k*6+1) (cs:=gB bI (jI f1 k xc)) (.string p.1.on) (by rw[fC];exact Aw (E:=bI) (j:=1) hget rfl) ?_;refine uM (JF (b:=bf) (s:=p.1.on) (az:=fE (bX d) 0)) (λy v hy e=>?_) (λy ch hy e=>?_)
  rotate_left
  ·have hm:p.1.on∉bX d:=by
    intro h;rw[xD h]at hy;subst hy;cases e
   rw[rQ (by rw[tK];exact hm)]at hy;subst hy;injection e with e;subst e;refine go ?_;exact xS (e:=160) (.inl rfl) (λh=>hm (h.Nr p.1 kT)) rfl rfl (by repeat (first|exact aJ.nil|(apply aJ.cons;(focus (repeat (first|exact aA.here|apply aA.there))))))
  have hm:p.1.on∈bX d:=by
   by_cases h:p.1.on∈bX d
   ·exact h
   ·rw[rQ (by rw[tK];exact h)]at hy;subst hy;cases e
  rw[xD hm]at hy;subst hy;injection e with e;subst e;rw[fC];refine go ?_;refine pg (o:=0+k*6+2) (cs:=gB bI (jI f1 k xc)) (cs':=gB bI (jI f1 (k+1) xc)) (v:=.int .i64 ((dY p.1.on (bX d):Nat):Int)) (by rw[fC,<- TR f1 hp];exact M5 (E:=bI) (j:=2) (p':=f1 p) hget rfl (by decide)) (by rw[Fe,y9];show 0+k*6+2<xc.length*6;omega) ?_;refine go ?_;refine uN (b:=bx) (f:=fx) (m:=xc.length) bI (aO:=jI f1 (k+1) xc) (by rw[y9]) hfx ?_;refine aD (k+1) (by omega) ⟨by omega,λq hq=>?_⟩;rw[nS,hp]at hq;rcases dB.1 hq with h|h
  ·exact hall q h
  ·have:q=p:=by simpa using h
   rw[this];exact hm
 have hkl:k=xc.length:=by omega
 subst hkl;rw[bC]at hall;have hcon:∀c∈d.aM,c.on∈bX d:=by
  intro c hc;rw[<- Dc]at hc;obtain⟨p,hp,rfl⟩:=eT.1 hc;exact hall p hp
 clear hall hk;rw[TP];refine go ?_;refine y7 jc (λbu=>?_);refine go ?_;refine uM (ae8 (b:=bu) (start:=0) (az:=[]) rU (by omega) wz) (λy v hy e=>?_) (λy ch hy e=>?_)
 rotate_left
 ·obtain⟨y,ns⟩:=y;cases y with
  |true=>cases e
  |false=>
   injection e with e;subst e;refine go ?_;exact xS (e:=161) (.inr rfl) (λh=>hy.2 rfl (by simpa[nN]using h.TN)) rfl rfl (by repeat (first|exact aJ.nil|(apply aJ.cons;(focus (repeat (first|exact aA.here|apply aA.there))))))
 obtain⟨y,ns⟩:=y;cases y with
 |false=>cases e
 |true=>
 injection e with e;subst e;have hrn:(nN d).Nodup:=by have:=(hy.1 rfl).2;simpa[nN]using this
 clear hy;dsimp only;refine aW (CE (b:=bu)) (h:=?_);refine go ?_;refine M6 aZ vu (λxr JH=>?_);have aj3:xr.length=d.rules.length:=by rw[<- JH,dV]
 refine aj (afb (aO:=xr) (by omega)) (next:=λv2 _=>?_);refine Tc (E:=aZ) (v:=v2) (aO:=xr) (λa2 e2=>?_);subst e2;refine go ?_;refine aW (eB (b:=b4)) (h:=?_);refine go ?_;let f2:bB×aZ.Y->bB×aZ.Y:=λp=>(mR (bP d) (bX d) (dM d) p.1,p.2)
 rw[show ar aZ (.slice a2 xr.length xr.length) xr=ar aZ (.slice a2 xr.length xr.length) (jI f2 0 xr)from rfl];refine acN (E:=aZ) (v:=vu) (aO:=xr) ?_;refine aR (λk=>xr.length - k) (λk:Nat=>[(67,.int .i64 (k:Int))]) (λk=>[ar aZ (.slice a2 xr.length xr.length) (jI f2 k xr)]) (λ_=>[]) (λk=>k<=xr.length/\∀p∈xr.take k,AB (bP d) (bX d) (dM d) p.1) 0 ⟨bJ _,by simp⟩ (body:=?_);rintro k ⟨hk,hall⟩;refine go ?_;refine ay rfl (λh2=>?_) (λh2=>?_)
 ·refine go ?_;refine Ta (E:=aZ) (aO:=jI f2 k xr) (by rw[y9];omega) (λdn fy Vs ev=>?_);injection ev with ea _ _;subst ea;obtain⟨p,hp⟩:∃p,xr[k]? =some p:=⟨xr[k]'(by omega),bN _⟩
  have hpm:=aP hp;have hget:(jI f2 k xr)[k]? =some p:=by rw[TQ _ (by omega)];exact hp
  have kT:p.1∈d.rules:=by rw[<- JH];exact Ko hpm
  have hfin:=TR f2 hp;obtain⟨r,v3,v4⟩:=p;have hrs:=hS.vY r kT;have mq:k<(jI f2 k xr).length:=by rw[y9];omega
  have aff:(jI f2 k xr).length=xr.length:=y9 _ _ _;have e0:jI f2 k xr=(jI f2 k xr).set k (r,v3,v4):=by
   apply kP;intro i;rw[uj];by_cases hi:k=i
   ·subst hi;rw[if_pos rfl,if_pos mq,hget]
   ·rw[if_neg hi]
  refine fD (ah bF v3 r.names) (λw h=>h (xu aZ xr) (dJ ..) _ hpm _ (dJ ..)) ?_;refine fD (ah bF v4 r.others) (λw h=>h (xu aZ xr) (dN _ (dJ ..)) _ hpm _ (dN _ (dJ ..))) ?_;rw[e0];rw[<- e0];generalize hX:jI f2 k xr=X at mq aff e0 hfin;rw[e0];refine go ?_;refine pg (o:=0+k*12+3) (cs:=gB aZ (X.set k (r,v3,v4))) (cs':=gB aZ (X.set k ({r with family:=0},v3,v4))) (v:=.int .i64 0) (Da mq rfl (by omega)) (Db mq (by omega)) ?_;refine go ?_;refine pg (o:=0+k*12+11) (cs:=gB aZ (X.set k ({r with family:=0},v3,v4))) (cs':=gB aZ (X.set k ({r with family:=0,aB:= -1},v3,v4))) (v:=.int .i64 (-1)) (Da mq rfl (by omega)) (Db mq (by omega)) ?_;refine go ?_;refine qG (o:=0+k*12+1) (cs:=gB aZ (X.set k ({r with family:=0,aB:= -1},v3,v4))) (.string r.on) (AZ mq rfl) ?_;refine go ?_;refine Sn (bA:=[pt b1 (.cells [.string d.name,.int .i64 d.version,.int .i64 d.shape,.int .i64 d.w,.int .i64 d.h,vh,vs,vr,.slice a1 xc.length xc.length,.slice (some ⟨dn,0,some fy⟩) xr.length xr.length]),ar bI (.slice a1 xc.length xc.length) (xc.map f1),pt b3 (.cells [.int .i64 0]),pt b2 (.cells vX)]) [] (λ_:Unit=>[]) (λ_=>[pt dn (.cells (gB aZ (X.set k ({r with family:=if r.on=⟨⟨[]⟩⟩then 0 else(dY r.on (bX d):Int),aB:= -1},v3,v4))))]) (λ_=>[]) (λ_=>r.on=⟨⟨[]⟩⟩\/r.on∈bX d) (hx:=?_) (hy:=?_)
  ·refine eX (p:=r.on=⟨⟨[]⟩⟩) (by show Value.bool _=_;rw[eO]) (λh3=>?_) (λh3=>?_)
   ·refine go ?_;refine qG (o:=0+k*12+1) (cs:=gB aZ (X.set k ({r with family:=0,aB:= -1},v3,v4))) (.string r.on) (AZ mq rfl) ?_;refine uM (JF (b:=bf) (s:=r.on) (az:=fE (bX d) 0)) (λy v hy e=>?_) (λy ch hy e=>?_)
    rotate_left
    ·have hm:r.on∉bX d:=by
      intro h;rw[xD h]at hy;subst hy;cases e
     rw[rQ (by rw[tK];exact hm)]at hy;subst hy;injection e with e;subst e;refine go ?_;refine aco ?_;refine go ?_;exact xS (e:=160) (.inl rfl) (λh=>(h.tL r kT).on.elim h3 hm) rfl rfl (by repeat (first|exact aJ.nil|(apply aJ.cons;(focus (repeat (first|exact aA.here|apply aA.there))))))
    have hm:r.on∈bX d:=by
     by_cases h:r.on∈bX d
     ·exact h
     ·rw[rQ (by rw[tK];exact h)]at hy;subst hy;cases e
    rw[xD hm]at hy;subst hy;injection e with e;subst e;rw[fC];refine go ?_;refine pg (o:=0+k*12+3) (cs:=gB aZ (X.set k ({r with family:=0,aB:= -1},v3,v4))) (cs':=gB aZ (X.set k ({r with family:=if r.on=⟨⟨[]⟩⟩then 0 else(dY r.on (bX d):Int),aB:= -1},v3,v4))) (v:=.int .i64 ((dY r.on (bX d):Nat):Int)) (by rw[if_neg h3];exact Da mq rfl (by omega)) (Db mq (by omega)) ?_;refine go ?_;exact IW () (.inr hm)
   ·refine go ?_;rw[show({r with family:=0,aB:= -1}:bB)={r with family:=if r.on=⟨⟨[]⟩⟩then 0 else(dY r.on (bX d):Int),aB:= -1}by rw[if_pos h3]];exact IW () (.inl h3)
  intro _ hon;generalize hfm:(if r.on=⟨⟨[]⟩⟩then 0 else(dY r.on (bX d):Int))=fm;refine go ?_;refine qG (o:=0+k*12+4) (cs:=gB aZ (X.set k ({r with family:=fm,aB:= -1},v3,v4))) v3 (AZ mq rfl) ?_;refine go ?_;refine qG (o:=0+k*12+5) (cs:=gB aZ (X.set k ({r with family:=fm,aB:= -1},v3,v4))) v4 (AZ mq rfl) ?_;refine go ?_;refine uM (Vp (b4:=b4) (bs:=bs) (vl:=v3) (cZ:=bP d) (l:=r.names) hsy hrs.1) (λy v hy e=>?_) (λy ch hy e=>?_)
   (hs:=λy v _ _=>Cs (b:=dn) (o:=0+k*12+5) (cs:=gB aZ (X.set k ({r with family:=fm,aB:= -1},v3,v4))) (v:=v4) rfl (by repeat (first|exact aA.here|apply aA.there)) (by rw[sI];exact AZ mq rfl) rfl Cr)
  rotate_left
  ·cases y with
   |true=>cases e
   |false=>
    injection e with e;subst e;refine go ?_;exact xS (e:=160) (.inl rfl) (λh=>hy.2 rfl (h.tL r kT).names) rfl rfl (by repeat (first|exact aJ.nil|(apply aJ.cons;(focus (repeat (first|exact aA.here|apply aA.there))))))
  cases y with
  |false=>cases e
  |true=>
  injection e with e;subst e;have afg:=hy.1 rfl;clear hy;refine go ?_;refine go ?_;refine uM (Vp (b4:=b4) (bs:=bs) (vl:=v4) (cZ:=bP d) (l:=r.others) hsy hrs.2) (λy v hy e=>?_) (λy ch hy e=>?_)
  rotate_left
  ·cases y with
   |true=>cases e
   |false=>
    injection e with e;subst e;refine go ?_;exact xS (e:=160) (.inl rfl) (λh=>hy.2 rfl (h.tL r kT).others) rfl rfl (by repeat (first|exact aJ.nil|(apply aJ.cons;(focus (repeat (first|exact aA.here|apply aA.there))))))
  cases y with
  |false=>cases e
  |true=>
  injection e with e;subst e;have afh:=hy.1 rfl;clear hy;refine go ?_;refine pg (o:=0+k*12+6) (cs:=gB aZ (X.set k ({r with family:=fm,aB:= -1},v3,v4))) (cs':=gB aZ (X.set k ({r with family:=fm,aB:= -1,set:=(fO (bP d) r.names:Int)},v3,v4))) (v:=.int .i64 (fO (bP d) r.names:Int)) (Da mq rfl (by omega)) (Db mq (by omega)) ?_;refine go ?_;refine pg (o:=0+k*12+7) (cs:=gB aZ (X.set k ({r with family:=fm,aB:= -1,set:=(fO (bP d) r.names:Int)},v3,v4))) (cs':=gB aZ (X.set k ({r with family:=fm,aB:= -1,set:=(fO (bP d) r.names:Int),other:=(fO (bP d) r.others:Int)},v3,v4))) (v:=.int .i64 (fO (bP d) r.others:Int)) (Da mq rfl (by omega)) (Db mq (by omega)) ?_;refine go ?_;refine qG (o:=0+k*12+10) (cs:=gB aZ (X.set k ({r with family:=fm,aB:= -1,set:=(fO (bP d) r.names:Int),other:=(fO (bP d) r.others:Int)},v3,v4))) (.string r.dn) (AZ mq rfl) ?_;refine go ?_;have hnext:(r.dn=⟨⟨[]⟩⟩\/r.dn∈dM d)->∀q∈xr.take (k+1),AB (bP d) (bX d) (dM d) q.1:=by
   intro hby q hq;rw[nS,hp]at hq;rcases dB.1 hq with h|h
   ·exact hall q h
   ·have:q=(r,v3,v4):=bM.1 (show q∈[(r,v3,v4)]from h);rw[this];exact⟨hon,afg,afh,hby⟩
  refine eX (p:=r.dn=⟨⟨[]⟩⟩) (by show Value.bool _=_;rw[eO]) (λh3=>?_) (λh3=>?_)
  ·refine go ?_;refine qG (o:=0+k*12+10) (cs:=gB aZ (X.set k ({r with family:=fm,aB:= -1,set:=(fO (bP d) r.names:Int),other:=(fO (bP d) r.others:Int)},v3,v4))) (.string r.dn) (AZ mq rfl) ?_;refine uM (JF (b:=bc) (s:=r.dn) (az:=fE (dM d) 0)) (λy v hy e=>?_) (λy ch hy e=>?_)
   rotate_left
   ·have hm:r.dn∉dM d:=by
     intro h;rw[xD h]at hy;subst hy;cases e
    rw[rQ (by rw[tK];exact hm)]at hy;subst hy;injection e with e;subst e;refine go ?_;exact xS (e:=160) (.inl rfl) (λh=>(h.tL r kT).dn.elim h3 hm) rfl rfl (by repeat (first|exact aJ.nil|(apply aJ.cons;(focus (repeat (first|exact aA.here|apply aA.there))))))
   have hm:r.dn∈dM d:=by
    by_cases h:r.dn∈dM d
    ·exact h
    ·rw[rQ (by rw[tK];exact h)]at hy;subst hy;cases e
   rw[xD hm]at hy;subst hy;injection e with e;subst e;rw[fC];refine go ?_;refine pg (o:=0+k*12+11) (cs:=gB aZ (X.set k ({r with family:=fm,aB:= -1,set:=(fO (bP d) r.names:Int),other:=(fO (bP d) r.others:Int)},v3,v4))) (cs':=gB aZ (X.set k (f2 (r,v3,v4)))) (v:=.int .i64 ((dY r.dn (dM d):Nat):Int)) (Da mq (by show _=gY (mR (bP d) (bX d) (dM d) r) v3 v4;unfold mR;rw[if_neg h3,hfm];rfl) (by omega)) (Db mq (by omega)) ?_;refine go ?_;rw[hfin];refine uN (b:=dn) (f:=fy) (m:=xr.length) aZ (aO:=jI f2 (k+1) xr) (by rw[y9]) Vs ?_;exact aD (k+1) (by omega) ⟨by omega,hnext (.inr hm)⟩
  ·refine go ?_;rw[show X.set k (({r with family:=fm,aB:= -1,set:=(fO (bP d) r.names:Int),other:=(fO (bP d) r.others:Int)}:bB),v3,v4)=jI f2 (k+1) xr by
    rw[<- hfin];congr 1;show _=(mR (bP d) (bX d) (dM d) r,v3,v4)
    unfold mR;rw[if_pos h3,hfm];rfl]
   refine uN (b:=dn) (f:=fy) (m:=xr.length) aZ (aO:=jI f2 (k+1) xr) (by rw[y9]) Vs ?_;exact aD (k+1) (by omega) ⟨by omega,hnext (.inl h3)⟩
 have hkl:k=xr.length:=by omega
 subst hkl;rw[bC]at hall;rw[TP];refine I1 (E:=bI) (v:=.slice a1 xc.length xc.length) (aO:=xc.map f1) ?_ (λw h p hp f hf=>by cases hf);refine I1 (E:=aZ) (v:=.slice a2 xr.length xr.length) (aO:=xr.map f2) ?_ (λw h p hp f hf=>by
  obtain⟨q,hq,rfl⟩:=eT.1 hp;exact h (xu aZ xr) (dN _ (dN _ (dJ ..))) q hq f hf)
 refine go ?_;refine Vq (e:=0) ⟨true,0,.slice a1 xc.length xc.length,.slice a2 xr.length xr.length⟩ rfl (by rfl) rfl rfl ⟨λ_=>⟨rfl,⟨by omega,hsn,hfn,hcn,hcon,hrn,λr hr=>?_⟩⟩,λh=>by cases h⟩ (λw h f hf=>?_) rfl rfl (by repeat (first|exact aJ.nil|(apply aJ.cons;(focus (repeat (first|exact aA.here|apply aA.there))))))
 ·rw[<- JH]at hr;obtain⟨p,hp,rfl⟩:=eT.1 hr;exact hall p hp
 ·have ec:(xc.map f1).map (·.1)=(Kd.bH d).aM:=by
   show _=d.aM.map (lW (bX d));rw[<- Dc,DJ,DJ];rfl
  have er:(xr.map f2).map (·.1)=(Kd.bH d).rules:=by
   show _=d.rules.map (mR (bP d) (bX d) (dM d));rw[<- JH,DJ,DJ];rfl
  rw[ec,er]at h;have hf:f∈[ah bI (.slice a1 xc.length xc.length) (Kd.bH d).aM,ah aZ (.slice a2 xr.length xr.length) (Kd.bH d).rules]:=hf;rcases dG.1 hf with rfl|hf
  ·exact h _ (by simp)
  ·rw[bM.1 hf];exact h _ (by simp)
end Go.Proofs.YtpkieeggilkagaaGreat
namespace Go.Proofs.YtpkieeggilkagaaGreat
open Go.Ideal Kd
theorem Vt{va vb:Value}{xs ys:List (List Int)}(hal:xs.length<9223372036854775808)(hl:∀l∈xs,l.length<9223372036854775808):bV Tryz.prog 189 [va,vb,.func (.func 73) #[] #[]] [ah (ax aa) va xs,ah (ax aa) vb ys] (.bool (decide (xs=ys))):=by
 refine aC _ (aF 189) λB w0=>?_;refine go ?_;refine ay rfl (λh1=>?_) (λh1=>?_)
 ·refine go ?_;refine ae () (hv:=?_) (hp:=trivial);rw[aS (λe=>h1 (by rw[e]))];rfl
 have hlen:xs.length=ys.length:=by omega
 refine go ?_;refine aR (λk=>xs.length - k) (λk:Nat=>[(17,.int .i64 (k:Int))]) (λ_=>[]) (λ_=>[]) (λk=>k<=xs.length/\∀j,j<k->xs[j]? =ys[j]?) 0 ⟨by omega,λj hj=>by omega⟩ (body:=?_);rintro k ⟨hkx,hsame⟩;refine go ?_;refine ay rfl (λh2=>?_) (λh2=>?_)
 ·refine go ?_;refine aU (ax aa) (next:=λ_ _ x (vx:Value) hx=>?_);refine go ?_;refine aU (ax aa) (next:=λ_ _ y (vy:Value) hy=>?_);refine go ?_;refine aj (zk (xs:=x) (ys:=y) (hl x (aP hx))) (next:=λ_ _=>?_);refine go ?_;refine eX rfl (λh3=>?_) (λh3=>?_)
  ·refine go ?_;refine ae () (hv:=?_) (hp:=trivial);rw[aS (λe=>h3 (by rw[e,hy]at hx;cases hx;rfl))];rfl
  refine go ?_;refine aD (k+1) (by omega) ⟨by omega,λj hj=>?_⟩;by_cases e:j=k
  ·subst e;rw[hx,hy,h3]
  ·exact hsame j (by omega)
 refine go ?_;refine ae () (hv:=?_) (hp:=trivial);have:xs=ys:=by
  apply kP;intro j;by_cases hj:j<k
  ·exact hsame j hj
  ·rw[iX (by omega),iX (by omega)]
 rw[dQ this];rfl
theorem Vu{va vb:Value}{xs ys:List (List Int)}(hal:xs.length<9223372036854775808)(hl:∀l∈xs,l.length<9223372036854775808):bV Tryz.prog 145 [va,vb] [ah (ax aa) va xs,ah (ax aa) vb ys] (.bool (decide (xs=ys))):=by
 refine aC _ (aF 145) λB w0=>?_;refine go ?_;refine aj (Vt (xs:=xs) (ys:=ys) hal hl) (next:=λ_ _=>?_);refine go ?_;exact ae () (hv:=rfl) (hp:=trivial)
theorem afi{va vb:Value}{xs ys:List (List (List Int))}(hal:xs.length<9223372036854775808)(hl:∀l∈xs,l.length<9223372036854775808/\∀m∈l,m.length<9223372036854775808):bV Tryz.prog 146 [va,vb,.func (.func 145) #[] #[]] [ah (ax (ax aa)) va xs,ah (ax (ax aa)) vb ys] (.bool (decide (xs=ys))):=by
 refine aC _ (aF 146) λB w0=>?_;refine go ?_;refine ay rfl (λh1=>?_) (λh1=>?_)
 ·refine go ?_;refine ae () (hv:=?_) (hp:=trivial);rw[aS (λe=>h1 (by rw[e]))];rfl
 have hlen:xs.length=ys.length:=by omega
 refine go ?_;refine aR (λk=>xs.length - k) (λk:Nat=>[(17,.int .i64 (k:Int))]) (λ_=>[]) (λ_=>[]) (λk=>k<=xs.length/\∀j,j<k->xs[j]? =ys[j]?) 0 ⟨by omega,λj hj=>by omega⟩ (body:=?_);rintro k ⟨hkx,hsame⟩;refine go ?_;refine ay rfl (λh2=>?_) (λh2=>?_)
 ·refine go ?_;refine aU (ax (ax aa)) (next:=λ_ _ x (vx:Value) hx=>?_);refine go ?_;refine aU (ax (ax aa)) (next:=λ_ _ y (vy:Value) hy=>?_);refine go ?_;refine aj (Vu (xs:=x) (ys:=y) (hl x (aP hx)).1 (hl x (aP hx)).2) (next:=λ_ _=>?_);refine go ?_;refine eX rfl (λh3=>?_) (λh3=>?_)
  ·refine go ?_;refine ae () (hv:=?_) (hp:=trivial);rw[aS (λe=>h3 (by rw[e,hy]at hx;cases hx;rfl))];rfl
  refine go ?_;refine aD (k+1) (by omega) ⟨by omega,λj hj=>?_⟩;by_cases e:j=k
  ·subst e;rw[hx,hy,h3]
  ·exact hsame j (by omega)
 refine go ?_;refine ae () (hv:=?_) (hp:=trivial);have:xs=ys:=by
  apply kP;intro j;by_cases hj:j<k
  ·exact hsame j hj
  ·rw[iX (by omega),iX (by omega)]
 rw[dQ this];rfl
theorem Vv{va vb:Value}{xs ys:List ByteArray}(hal:xs.length<9223372036854775808):bV Tryz.prog 191 [va,vb] [ah bF va xs,ah bF vb ys] (.bool (decide (xs=ys))):=by
 refine aC _ (aF 191) λB w0=>?_;refine go ?_;refine ay rfl (λh1=>?_) (λh1=>?_)
 ·refine go ?_;refine ae () (hv:=?_) (hp:=trivial);rw[aS (λe=>h1 (by rw[e]))];rfl
 have hlen:xs.length=ys.length:=by omega
 refine go ?_;refine aR (λk=>xs.length - k) (λk:Nat=>[(13,.int .i64 (k:Int))]) (λ_=>[]) (λ_=>[]) (λk=>k<=xs.length/\∀j,j<k->xs[j]? =ys[j]?) 0 ⟨by omega,λj hj=>by omega⟩ (body:=?_);rintro k ⟨hkx,hsame⟩;refine go ?_;refine ay rfl (λh2=>?_) (λh2=>?_)
 ·refine go ?_;refine aU bF (next:=λ_ _ x (_:Unit) hx=>?_);refine go ?_;refine aU bF (next:=λ_ _ y (_:Unit) hy=>?_);refine go ?_;refine eX (p:=x=y) (by show Value.bool _=_;rw[eO]) (λh3=>?_) (λh3=>?_)
  ·refine go ?_;refine ae () (hv:=?_) (hp:=trivial);rw[aS (λe=>h3 (by rw[e,hy]at hx;cases hx;rfl))];rfl
  refine go ?_;refine aD (k+1) (by omega) ⟨by omega,λj hj=>?_⟩;by_cases e:j=k
  ·subst e;rw[hx,hy,h3]
  ·exact hsame j (by omega)
 refine go ?_;refine ae () (hv:=?_) (hp:=trivial);have:xs=ys:=by
  apply kP;intro j;by_cases hj:j<k
  ·exact hsame j hj
  ·rw[iX (by omega),iX (by omega)]
 rw[dQ this];rfl
theorem Ob(x y:nM):cellsE [.string x.name,.int .i64 x.value] [.string y.name,.int .i64 y.value]=decide (x=y):=by
 obtain⟨a,b⟩:=x;obtain⟨c,e⟩:=y;show(decide (a=c)&&(decide (b=e)&&true))=_;rw[Bool.and_true,<- Bool.decide_and];exact l6.2 ⟨λh=>by rw[h.1,h.2],λh=>by cases h;exact⟨rfl,rfl⟩⟩
abbrev FM(x:jo):List Value:=[.string x.name,.string x.on,.int .i64 x.family,.int .i64 x.type,.int .i64 x.lo,.int .i64 x.hi]
theorem Oc(x y:jo):cellsE (FM x) (FM y)=decide (x=y):=by
 obtain⟨a1,a2,a3,a4,a5,a6⟩:=x;obtain⟨b1,b2,b3,b4,b5,b6⟩:=y;show(decide (a1=b1)&&(decide (a2=b2)&&(decide (a3=b3)&&(decide (a4=b4)&&(decide (a5=b5)&&(decide (a6=b6)&&true))))))=_;rw[Bool.and_true];simp only[<- Bool.decide_and];exact l6.2 ⟨λh=>by rw[h.1,h.2.1,h.2.2.1,h.2.2.2.1,h.2.2.2.2.1,h.2.2.2.2.2],λh=>by cases h;exact⟨rfl,rfl,rfl,rfl,rfl,rfl⟩⟩
theorem Od:∃fs:Array Field,Tryz.prog.underlying 96=some (.struct fs)/\Ff Tryz.prog fs.toList 0 [false,true]=true:=by
 refine⟨Tryz.prog.fieldsOf 96,by kernel_rfl,by kernel_rfl⟩
theorem Oe:∃fs:Array Field,Tryz.prog.underlying 110=some (.struct fs)/\Ff Tryz.prog fs.toList 0 [false,false,true,true,true,true]=true:=by
 refine⟨Tryz.prog.fieldsOf 110,by kernel_rfl,by kernel_rfl⟩
theorem afj{va vb:Value}{xs ys:List nM}(hal:xs.length<9223372036854775808):bV Tryz.prog 192 [va,vb] [ah fo va xs,ah fo vb ys] (.bool (decide (xs=ys))):=by
 obtain⟨fs,hu,hrow⟩:=Od;refine aC _ (aF 192) λB w0=>?_;refine go ?_;refine ay rfl (λh1=>?_) (λh1=>?_)
 ·refine go ?_;refine ae () (hv:=?_) (hp:=trivial);rw[aS (λe=>h1 (by rw[e]))];rfl
 have hlen:xs.length=ys.length:=by omega
 refine go ?_;refine aR (λk=>xs.length - k) (λk:Nat=>[(13,.int .i64 (k:Int))]) (λ_=>[]) (λ_=>[]) (λk=>k<=xs.length/\∀j,j<k->xs[j]? =ys[j]?) 0 ⟨by omega,λj hj=>by omega⟩ (body:=?_);rintro k ⟨hkx,hsame⟩;refine go ?_;refine ay rfl (λh2=>?_) (λh2=>?_)
 ·refine go ?_;refine aU fo (next:=λ_ _ x (_:Unit) hx=>?_);refine go ?_;refine aU fo (next:=λ_ _ y (_:Unit) hy=>?_);refine go ?_;refine(gH (v:=.bool (!decide (x=y))) rfl rfl (by rw[<- Ob];exact CO rfl rfl hu (by kernel_rfl) (by kernel_rfl) (row_of hrow rfl rfl (λj=>by rw[fC]) (λj=>by rw[fC])) (by simp[fU,cz,Ideal.cellV]) (by simp[fU,cz,Ideal.cellV]))).h ?_;refine go ?_;refine eX rfl (λh3=>?_) (λh3=>?_)
  ·refine go ?_;refine ae () (hv:=?_) (hp:=trivial);rw[aS (λe=>h3 (by rw[e,hy]at hx;cases hx;rfl))];rfl
  refine go ?_;refine aD (k+1) (by omega) ⟨by omega,λj hj=>?_⟩;by_cases e:j=k
  ·subst e;rw[hx,hy,h3]
  ·exact hsame j (by omega)
 refine go ?_;refine ae () (hv:=?_) (hp:=trivial);have:xs=ys:=by
  apply kP;intro j;by_cases hj:j<k
  ·exact hsame j hj
  ·rw[iX (by omega),iX (by omega)]
 rw[dQ this];rfl
theorem afk{va vb:Value}{xs ys:List jo}(hal:xs.length<9223372036854775808):bV Tryz.prog 194 [va,vb] [ah bI va xs,ah bI vb ys] (.bool (decide (xs=ys))):=by
 obtain⟨fs,hu,hrow⟩:=Oe;refine aC _ (aF 194) λB w0=>?_;refine go ?_;refine ay rfl (λh1=>?_) (λh1=>?_)
 ·refine go ?_;refine ae () (hv:=?_) (hp:=trivial);rw[aS (λe=>h1 (by rw[e]))];rfl
 have hlen:xs.length=ys.length:=by omega
 refine go ?_;refine aR (λk=>xs.length - k) (λk:Nat=>[(13,.int .i64 (k:Int))]) (λ_=>[]) (λ_=>[]) (λk=>k<=xs.length/\∀j,j<k->xs[j]? =ys[j]?) 0 ⟨by omega,λj hj=>by omega⟩ (body:=?_);rintro k ⟨hkx,hsame⟩;refine go ?_;refine ay rfl (λh2=>?_) (λh2=>?_)
 ·refine go ?_;refine aU bI (next:=λ_ _ x (_:Unit) hx=>?_);refine go ?_;refine aU bI (next:=λ_ _ y (_:Unit) hy=>?_);refine go ?_;refine(gH (v:=.bool (!decide (x=y))) rfl rfl (by rw[<- Oc];exact CO rfl rfl hu (by kernel_rfl) (by kernel_rfl) (row_of hrow rfl rfl (λj=>by rw[fC]) (λj=>by rw[fC])) (by simp[fU,cz,Ideal.cellV]) (by simp[fU,cz,Ideal.cellV]))).h ?_;refine go ?_;refine eX rfl (λh3=>?_) (λh3=>?_)
  ·refine go ?_;refine ae () (hv:=?_) (hp:=trivial);rw[aS (λe=>h3 (by rw[e,hy]at hx;cases hx;rfl))];rfl
  refine go ?_;refine aD (k+1) (by omega) ⟨by omega,λj hj=>?_⟩;by_cases e:j=k
  ·subst e;rw[hx,hy,h3]
  ·exact hsame j (by omega)
 refine go ?_;refine ae () (hv:=?_) (hp:=trivial);have:xs=ys:=by
  apply kP;intro j;by_cases hj:j<k
  ·exact hsame j hj
  ·rw[iX (by omega),iX (by omega)]
 rw[dQ this];rfl
end Go.Proofs.YtpkieeggilkagaaGreat
namespace Go.Proofs.YtpkieeggilkagaaGreat
open Go.Ideal Kd
theorem afl{x y:mQ}{vx vy:Value}(hl:x.lists.length<9223372036854775808)(hll:∀l∈x.lists,l.length<9223372036854775808):bV Tryz.prog 188 [.agg ⟨[.string x.name,vx]⟩,.agg ⟨[.string y.name,vy]⟩] [ah (ax aa) vx x.lists,ah (ax aa) vy y.lists] (.bool (decide (x=y))):=by
 obtain⟨n1,l1⟩:=x;obtain⟨n2,l2⟩:=y;dsimp only at hl hll⊢;refine aC _ (aF 188) λB w0=>?_;refine go ?_;intro b2 b3;refine go ?_;refine gG (λh1=>?_) (λh1=>?_)
 ·rw[eO]at h1;refine go ?_;refine ae () (hv:=?_) (hp:=trivial);rw[aS (λe=>mK h1 (by cases e;rfl))];rfl
 rw[eO]at h1;have h1:=iw h1;refine go ?_;refine aj (Vt (xs:=l1) (ys:=l2) hl hll) (next:=λ_ _=>?_);refine go ?_;refine ae () (hv:=?_) (hp:=trivial);rw[show decide (mQ.mk n1 l1=mQ.mk n2 l2)=decide (l1=l2)from l6.2 ⟨λh=>by cases h;rfl,λh=>by rw[h1,h]⟩];rfl
theorem afm{x y:bB}{v1 v2 u1 u2:Value}(hl:x.names.length<9223372036854775808)(hll:x.others.length<9223372036854775808):bV Tryz.prog 190 [.agg ⟨gY x v1 v2⟩,.agg ⟨gY y u1 u2⟩] [ah bF v1 x.names,ah bF v2 x.others,ah bF u1 y.names,ah bF u2 y.others] (.bool (decide (x=y))):=by
 obtain⟨n1,o1,k1,f1,wh,os1,s1,t1,p1,m1,y1,c1⟩:=x;obtain⟨n2,o2,k2,f2,De,os2,s2,t2,p2,m2,y2,c2⟩:=y;dsimp only[gY]at hl hll⊢;refine aC _ (aF 190) λB w0=>?_;refine go ?_;intro b2 b3;refine go ?_;refine aj (Vv (xs:=wh) (ys:=De) hl) (next:=λ_ _=>?_);refine go ?_;refine gG (λh1=>?_) (λh1=>?_)
 ·refine go ?_;refine ae () (hv:=?_) (hp:=trivial);rw[aS (λe=>h1 (by cases e;rfl))];rfl
 refine go ?_;refine aj (Vv (xs:=os1) (ys:=os2) hll) (next:=λ_ _=>?_);refine go ?_;refine gG (λh2=>?_) (λh2=>?_)
 ·refine go ?_;refine ae () (hv:=?_) (hp:=trivial);rw[aS (λe=>h2 (by cases e;rfl))];rfl
 refine go ?_;refine gG (λh3=>?_) (λh3=>?_)
 ·rw[eO]at h3;refine go ?_;refine ae () (hv:=?_) (hp:=trivial);rw[aS (λe=>mK h3 (by cases e;rfl))];rfl
 rw[eO]at h3;have h3:=iw h3;refine go ?_;refine gG (λh4=>?_) (λh4=>?_)
 ·rw[eO]at h4;refine go ?_;refine ae () (hv:=?_) (hp:=trivial);rw[aS (λe=>mK h4 (by cases e;rfl))];rfl
 rw[eO]at h4;have h4:=iw h4;refine go ?_;refine gG (λh5=>?_) (λh5=>?_)
 ·rw[eO]at h5;refine go ?_;refine ae () (hv:=?_) (hp:=trivial);rw[aS (λe=>mK h5 (by cases e;rfl))];rfl
 rw[eO]at h5;have h5:=iw h5;refine go ?_;refine(gH (v:=.bool (decide ([k1,f1,s1,t1,p1,m1,c1]=[k2,f2,s2,t2,p2,m2,c2]))) rfl rfl (acQ (n:=7) (e:=3) rfl rfl (by kernel_rfl) (by kernel_rfl) (by kernel_rfl) rfl rfl (by kernel_rfl))).h ?_;refine go ?_;refine ae () (hv:=?_) (hp:=trivial);rw[show decide (bB.mk n1 o1 k1 f1 wh os1 s1 t1 p1 m1 y1 c1=bB.mk n2 o2 k2 f2 De os2 s2 t2 p2 m2 y2 c2)=decide ([k1,f1,s1,t1,p1,m1,c1]=[k2,f2,s2,t2,p2,m2,c2])from l6.2 ⟨λh=>by cases h;rfl,λh=>by cases h;rw[h1,h2,h3,h4,h5]⟩];rfl
theorem afn{va vb:Value}{xs ys:List mQ}(hal:xs.length<9223372036854775808)(hl:∀r∈xs,r.lists.length<9223372036854775808/\∀l∈r.lists,l.length<9223372036854775808):bV Tryz.prog 193 [va,vb,.func (.func 188) #[] #[]] [ah fA va xs,ah fA vb ys] (.bool (decide (xs=ys))):=by
 refine aC _ (aF 193) λB w0=>?_;refine go ?_;refine ay rfl (λh1=>?_) (λh1=>?_)
 ·refine go ?_;refine ae () (hv:=?_) (hp:=trivial);rw[aS (λe=>h1 (by rw[e]))];rfl
 have hlen:xs.length=ys.length:=by omega
 refine go ?_;refine aR (λk=>xs.length - k) (λk:Nat=>[(17,.int .i64 (k:Int))]) (λ_=>[]) (λ_=>[]) (λk=>k<=xs.length/\∀j,j<k->xs[j]? =ys[j]?) 0 ⟨by omega,λj hj=>by omega⟩ (body:=?_);rintro k ⟨hkx,hsame⟩;refine go ?_;refine ay rfl (λh2=>?_) (λh2=>?_)
 ·refine go ?_;refine aU fA (next:=λ_ _ x (vx:Value) hx=>?_);refine go ?_;intro b8;refine go ?_;refine aU fA (next:=λ_ _ y (vy:Value) hy=>?_);refine go ?_;intro b9;refine go ?_;refine aj (afl (x:=x) (y:=y) (vx:=vx) (vy:=vy) (hl x (aP hx)).1 (hl x (aP hx)).2) (next:=λ_ _=>?_);refine go ?_;refine eX rfl (λh3=>?_) (λh3=>?_)
  ·refine go ?_;refine ae () (hv:=?_) (hp:=trivial);rw[aS (λe=>h3 (by rw[e,hy]at hx;cases hx;rfl))];rfl
  refine go ?_;refine aD (k+1) (by omega) ⟨by omega,λj hj=>?_⟩;by_cases e:j=k
  ·subst e;rw[hx,hy,h3]
  ·exact hsame j (by omega)
 refine go ?_;refine ae () (hv:=?_) (hp:=trivial);have:xs=ys:=by
  apply kP;intro j;by_cases hj:j<k
  ·exact hsame j hj
  ·rw[iX (by omega),iX (by omega)]
 rw[dQ this];rfl
theorem afo{va vb:Value}{xs ys:List bB}(hal:xs.length<9223372036854775808)(hl:∀r∈xs,r.names.length<9223372036854775808/\r.others.length<9223372036854775808):bV Tryz.prog 195 [va,vb,.func (.func 190) #[] #[]] [ah aZ va xs,ah aZ vb ys] (.bool (decide (xs=ys))):=by
 refine aC _ (aF 195) λB w0=>?_;refine go ?_;refine ay rfl (λh1=>?_) (λh1=>?_)
 ·refine go ?_;refine ae () (hv:=?_) (hp:=trivial);rw[aS (λe=>h1 (by rw[e]))];rfl
 have hlen:xs.length=ys.length:=by omega
 refine go ?_;refine aR (λk=>xs.length - k) (λk:Nat=>[(17,.int .i64 (k:Int))]) (λ_=>[]) (λ_=>[]) (λk=>k<=xs.length/\∀j,j<k->xs[j]? =ys[j]?) 0 ⟨by omega,λj hj=>by omega⟩ (body:=?_);rintro k ⟨hkx,hsame⟩;refine go ?_;refine ay rfl (λh2=>?_) (λh2=>?_)
 ·refine go ?_;refine aU aZ (next:=λ_ _ x (vx:Value×Value) hx=>?_);refine go ?_;intro b8;refine go ?_;refine aU aZ (next:=λ_ _ y (vy:Value×Value) hy=>?_);refine go ?_;intro b9;refine go ?_;refine aj (afm (x:=x) (y:=y) (v1:=vx.1) (v2:=vx.2) (u1:=vy.1) (u2:=vy.2) (hl x (aP hx)).1 (hl x (aP hx)).2) (next:=λ_ _=>?_);refine go ?_;refine eX rfl (λh3=>?_) (λh3=>?_)
  ·refine go ?_;refine ae () (hv:=?_) (hp:=trivial);rw[aS (λe=>h3 (by rw[e,hy]at hx;cases hx;rfl))];rfl
  refine go ?_;refine aD (k+1) (by omega) ⟨by omega,λj hj=>?_⟩;by_cases e:j=k
  ·subst e;rw[hx,hy,h3]
  ·exact hsame j (by omega)
 refine go ?_;refine ae () (hv:=?_) (hp:=trivial);have:xs=ys:=by
  apply kP;intro j;by_cases hj:j<k
  ·exact hsame j hj
  ·rw[iX (by omega),iX (by omega)]
 rw[dQ this];rfl
theorem Vw{x y:bG}{h1 s1 r1 c1 u1 h2 s2 r2 c2 u2:Value}(hS:mZ x):bV Tryz.prog 144 [.agg ⟨gI x h1 s1 r1 c1 u1⟩,.agg ⟨gI y h2 s2 r2 c2 u2⟩] (mi x h1 s1 r1 c1 u1++mi y h2 s2 r2 c2 u2) (.bool (decide (x=y))):=by
 have e1:=hS.cZ;have e2:=hS.regs;have e3:=hS.jB;have e4:=hS.jP;have e5:=hS.vY;have e6:=hS.holes;have e7:=hS.vZ;clear hS;obtain⟨n1,v1,p1,w1,g1,ho1,ng,mD,ni,mE⟩:=x;obtain⟨n2,v2,p2,w2,g2,ho2,qK,qg,qL,qh⟩:=y;dsimp only at e1 e2 e3 e4 e5 e6 e7;dsimp only[gI,mi,List.cons_append,List.nil_append];refine aC _ (aF 144) λB w0=>?_;refine go ?_;intro b2 b3;refine go ?_;refine gG (λk1=>?_) (λk1=>?_)
 ·rw[eO]at k1;refine go ?_;refine ae () (hv:=?_) (hp:=trivial);rw[aS (λe=>mK k1 (by cases e;rfl))];rfl
 rw[eO]at k1;have k1:=iw k1;refine go ?_;refine gG (λk2=>?_) (λk2=>?_)
 ·refine go ?_;refine ae () (hv:=?_) (hp:=trivial);rw[aS (λe=>k2 (by cases e;rfl))];rfl
 refine go ?_;refine gG (λk3=>?_) (λk3=>?_)
 ·refine go ?_;refine ae () (hv:=?_) (hp:=trivial);rw[aS (λe=>k3 (by cases e;rfl))];rfl
 refine go ?_;refine gG (λk4=>?_) (λk4=>?_)
 ·refine go ?_;refine ae () (hv:=?_) (hp:=trivial);rw[aS (λe=>k4 (by cases e;rfl))];rfl
 refine go ?_;refine gG (λk5=>?_) (λk5=>?_)
 ·refine go ?_;refine ae () (hv:=?_) (hp:=trivial);rw[aS (λe=>k5 (by cases e;rfl))];rfl
 refine go ?_;refine aj (zk (xs:=ho1) (ys:=ho2) e6) (next:=λ_ _=>?_);refine go ?_;refine gG (λk6=>?_) (λk6=>?_)
 ·refine go ?_;refine ae () (hv:=?_) (hp:=trivial);rw[aS (λe=>k6 (by cases e;rfl))];rfl
 refine go ?_;refine aj (afj (xs:=ng) (ys:=qK) (by omega)) (next:=λ_ _=>?_);refine go ?_;refine gG (λk7=>?_) (λk7=>?_)
 ·refine go ?_;refine ae () (hv:=?_) (hp:=trivial);rw[aS (λe=>k7 (by cases e;rfl))];rfl
 refine go ?_;refine aj (afn (xs:=mD) (ys:=qg) (by omega) e7) (next:=λ_ _=>?_);refine go ?_;refine gG (λk8=>?_) (λk8=>?_)
 ·refine go ?_;refine ae () (hv:=?_) (hp:=trivial);rw[aS (λe=>k8 (by cases e;rfl))];rfl
 refine go ?_;refine aj (afk (xs:=ni) (ys:=qL) (by omega)) (next:=λ_ _=>?_);refine go ?_;refine gG (λk9=>?_) (λk9=>?_)
 ·refine go ?_;refine ae () (hv:=?_) (hp:=trivial);rw[aS (λe=>k9 (by cases e;rfl))];rfl
 refine go ?_;refine aj (afo (xs:=mE) (ys:=qh) (by omega) e5) (next:=λ_ _=>?_);refine go ?_;refine ae () (hv:=?_) (hp:=trivial);rw[show decide (bG.mk n1 v1 p1 w1 g1 ho1 ng mD ni mE=bG.mk n2 v2 p2 w2 g2 ho2 qK qg qL qh)=decide (mE=qh)from l6.2 ⟨λh=>by cases h;rfl,λh=>by rw[k1,k2,k3,k4,k5,k6,k7,k8,k9,h]⟩];rfl
