/-
  Names: maps from names to numbers; names that must be there; sets of symbols.
-/
import Derived.Test.YtfakljdleblkoaaGreatPlainBM
import Derived.Laws.Strings
import Derived.Test.YtfakljdleblkoaaGreatLibAM
set_option linter.all false
set_option maxRecDepth 10000
set_option maxHeartbeats 2000000
namespace Go.Proofs.YtfakljdleblkoaaGreat
open Go.Ideal Kd
noncomputable def Xr:gU:=⟨2,[(.tmp 0)],(.seq (kO [kS 0 (.oq (.const vS))]) (.seq (kO [⟨⟨(some 1),none,(.yY 9 8 [vE,vE,vE,vE,vE,vE,vE,vE] [⟨0,⟨1,(.const (.string ⟨⟨[99,101,108,108,115]⟩⟩))⟩⟩,⟨1,⟨1,(.const (.string ⟨⟨[114,111,119,115]⟩⟩))⟩⟩,⟨2,⟨1,(.const (.string ⟨⟨[99,111,108,117,109,110,115]⟩⟩))⟩⟩,⟨3,⟨1,(.const (.string ⟨⟨[100,105,97,103,111,110,97,108,115]⟩⟩))⟩⟩,⟨4,⟨1,(.const (.string ⟨⟨[97,114,111,117,110,100]⟩⟩))⟩⟩,⟨5,⟨1,(.const (.string ⟨⟨[110,101,97,114]⟩⟩))⟩⟩,⟨6,⟨1,(.const (.string ⟨⟨[112,97,105,114,115]⟩⟩))⟩⟩,⟨7,⟨1,(.const (.string ⟨⟨[97,108,108]⟩⟩))⟩⟩])⟩,[]⟩,kS 0 (.oq 1)]) .ret))⟩
theorem ahM:lT Tryz.prog 237=some Xr:=by kernel_rfl
abbrev iR:ByteArray->Value:=λs=>.string s
theorem vJ:rY Tryz.prog 9 iR:=aeO (by kernel_rfl)
abbrev pQ(e:Int):List PanicEntry:=[{v:=.iface 40 (.int .i64 e),recovered:=false}]
theorem Xt{x:lG}:eG Tryz.prog 233 [.agg ⟨[.string x.name,.int .i64 x.value]⟩] [] (.string x.name):=by
 refine aK _ (aM 233) λB w0=>?_;refine go ?_;intro b;refine go ?_;exact aj () (hv:=rfl) (hp:=trivial)
theorem Xu{x:oN}{v:Value}:eG Tryz.prog 235 [.agg ⟨[.string x.name,v]⟩] [] (.string x.name):=by
 refine aK _ (aM 235) λB w0=>?_;refine go ?_;intro b;refine go ?_;exact aj () (hv:=rfl) (hp:=trivial)
theorem Xv{x:iI}:eG Tryz.prog 240 [.agg ⟨[.string x.name,.string x.on,.int .i64 x.family,.int .i64 x.type,.int .i64 x.lo,.int .i64 x.hi]⟩] [] (.string x.name):=by
 refine aK _ (aM 240) λB w0=>?_;refine go ?_;intro b;refine go ?_;exact aj () (hv:=rfl) (hp:=trivial)
theorem Xw{x:bV}{v1 v2:Value}:eG Tryz.prog 244 [.agg ⟨jG x v1 v2⟩] [] (.string x.name):=by
 refine aK _ (aM 244) λB w0=>?_;refine go ?_;intro b;refine go ?_;exact aj () (hv:=rfl) (hp:=trivial)
theorem Xx{s:ByteArray}:eG Tryz.prog 238 [.string s] [] (.string s):=by
 refine aK _ (aM 238) λB w0=>?_;refine go ?_;exact aj () (hv:=rfl) (hp:=trivial)
theorem Gc{P:Program}{B:List Nat}{w0:Wd}{kl kl':List OA}{F:List aD}{K:KO}{ds:List Tmp}{rest:List bP}{n:Nat}{l:List (Nat×Value)}{D:List Deferred}{pm:Option FrameMode}{ro:Option Nat}{d:Nat}{g:Option (Tmp×Bool)}
 {α:Type} [DecidableEq α] {aY:α->Value} {kt:TypeId} {zero:Value} {m k:Operand} {b:Nat} {ax:List (α×Value)} (hk:rY P kt aY) (a:α)
 (hit:∀v,dU a ax=some v->a∈ax.map (·.1)->R (λh=>aI P ds rest (act n ((d,.tuple ⟨[v,.bool true]⟩)::l) D pm ro) h K) B w0 kl F)
 (miss:a∉ax.map (·.1)->R (λh=>aI P ds rest (act n ((d,.tuple ⟨[zero,.bool false]⟩)::l) D pm ro) h K) B w0 kl F)
 (hm:ev l m=.map (some b):=by rfl) (ha:ev l k=aY a:=by conv=>lhs;whnf) (hs:az (gL aY b ax) kl kl':=by exact fB) (hn:Nat.blt d n=true:=by rfl) (hg:bM l g=true:=by rfl):
 R (λh=>aI P ds (⟨⟨some d,g,.lookup kt zero m k true⟩,[]⟩::rest) (act n l D pm ro) h K) B w0 kl F:=by
 refine FO (ok:=true) hk a ?_ hm ha hs hn hg;by_cases h:a∈ax.map (·.1)
 ·obtain⟨v,hv⟩:=F3 h;have e:kU true zero a ax=.tuple ⟨[v,.bool true]⟩:=by unfold kU;rw[hv];rfl
  rw[e];exact hit v hv h
 ·have e:kU true zero a ax=.tuple ⟨[zero,.bool false]⟩:=by unfold kU;rw[sj h];rfl
  rw[e];exact miss h
theorem qx{α:Type}{ax:List (ByteArray×Value)}{xs:List α}{nm:α->ByteArray}{start k:Nat}{x:α}(hx:xs[k]? =some x):
 (ax++fD ((xs.take k).map nm) start).map (·.1)=ax.map (·.1)++(xs.take k).map nm/\fD ((xs.take (k+1)).map nm) start=fD ((xs.take k).map nm) start++[(nm x,.int .i64 ((start:Int)+(k:Int)))]:=by
 have hk:=(aW.1 hx).1;refine⟨by rw[di,um],?_⟩;rw[pg,hx,di,OI];congr 1;rw[bJ,iL,w9 (by omega)];simp[fD]
theorem ahN{vs:Value}{xs:List ByteArray}{b start:Nat}{ax:List (ByteArray×Value)}(hl:xs.length<=4096)(hs:start<=4096)(hnd:(ax.map (·.1)).Nodup):
 oL Tryz.prog (.func 236) [vs,.int .i64 (start:Int),.func (.func 238) #[] #[],.map (some b)] [] [gL iR b ax] [ah ji vs xs] (λy:Bool×List ByteArray=>if y.1=true then .ok (.map (some b))else .fT (pQ 161))
  (λy=>[gL iR b (ax++fD y.2 start)]) (λ_=>[]) (λy=>(y.1=true->y.2=xs/\(ax.map (·.1)++xs).Nodup)/\(y.1=false->¬(ax.map (·.1)++xs).Nodup)):=by
 let nm:ByteArray->ByteArray:=λs=>s
 have hmap:∀l:List ByteArray,l.map nm=l:=λl=>List.map_id' l;suffices h:oL Tryz.prog (.func 236) [vs,.int .i64 (start:Int),.func (.func 238) #[] #[],.map (some b)] [] [gL iR b ax] [ah ji vs xs] (λy:Bool×List ByteArray=>if y.1=true then .ok (.map (some b))else .fT (pQ 161))
  (λy=>[gL iR b (ax++fD y.2 start)]) (λ_=>[]) (λy=>(y.1=true->y.2=(xs.map nm)/\(ax.map (·.1)++xs.map nm).Nodup)/\(y.1=false->¬(ax.map (·.1)++xs.map nm).Nodup))by
  rw[hmap]at h;exact h
 refine vz _ (aM 236) λB w0=>?_;refine go ?_;rw[show gL iR b ax=gL iR b (ax++fD ((xs.take 0).map nm) start)by simp[fD]];refine bQ (λk=>xs.length - k) (λk:Nat=>[(15,.int .i64 (k:Int))]) (λk=>[gL iR b (ax++fD ((xs.take k).map nm) start)]) (λ_=>[]) (λk=>k<=xs.length/\(ax.map (·.1)++(xs.take k).map nm).Nodup) 0 ⟨dK _,by simpa using hnd⟩ (body:=?_);rintro k ⟨hk,hall⟩;refine go ?_;refine aJ rfl (λh1=>?_) (λh1=>?_)
 ·refine go ?_;refine bZ ji (next:=λ_ _ x (y:Unit) hx=>?_);refine go ?_;refine ak (Xx (s:=x)) (next:=λ_ _=>?_);refine go ?_;refine Gc vJ (nm x) (λv hv hm=>?_) (λhm=>?_)
  ·refine go ?_;refine Bg ?_;refine go ?_;refine zI (false,(xs.take k).map nm) (hv:=rfl) (hp:=⟨(λh=>by cases h),λ_ hn=>?_⟩);rw[(qx hx).1]at hm;have hsub:(ax.map (·.1)++(xs.take k).map nm++[nm x]).Nodup:=by
    have e:xs.map nm=(xs.take k).map nm++nm x::(xs.drop (k+1)).map nm:=by
     conv=>lhs;rw[<- mM k xs]
     rw[di];congr 1;rw[nJ (aW.1 hx).1,fI,(aW.1 hx).2]
    rw[e,<- ed]at hn;rw[iN]at hn⊢;exact⟨hn.1,by simp,λa ha c hc=>hn.2.2 a ha c (by rw[bO.1 hc];exact bR ..)⟩
   rw[iN]at hsub;exact hsub.2.2 _ hm _ (bO.2 rfl) rfl
  refine go ?_;refine ak (Xx (s:=x)) (next:=λ_ _=>?_);refine go ?_;refine xR vJ (nm x) (ax:=ax++fD ((xs.take k).map nm) start) (v:=.int .i64 ((start:Int)+(k:Int))) ?_;have hm2:=hm;rw[(qx hx).1]at hm2;rw[Dr hm,ed,<- (qx (ax:=ax) hx).2];refine go ?_;refine bi (k+1) (by omega) ⟨by omega,?_⟩;rw[pg,hx,di,<- ed,iN];refine⟨hall,by simp,λa ha c hc=>?_⟩;have:c=nm x:=by simpa using hc
  subst this;intro e;subst e;exact hm2 ha
 have hkl:k=xs.length:=by omega
 subst hkl;rw[eH]at hall;rw[eH];refine go ?_;exact zH (true,xs.map nm) (hv:=rfl) (hp:=⟨λ_=>⟨rfl,hall⟩,λh=>by cases h⟩)
theorem ahO{vs:Value}{xs:List lG}{b start:Nat}{ax:List (ByteArray×Value)}(hl:xs.length<=4096)(hs:start<=4096)(hnd:(ax.map (·.1)).Nodup):
 oL Tryz.prog (.func 232) [vs,.int .i64 (start:Int),.func (.func 233) #[] #[],.map (some b)] [] [gL iR b ax] [ah jF vs xs] (λy:Bool×List ByteArray=>if y.1=true then .ok (.map (some b))else .fT (pQ 161))
  (λy=>[gL iR b (ax++fD y.2 start)]) (λ_=>[]) (λy=>(y.1=true->y.2=(xs.map lG.name)/\(ax.map (·.1)++xs.map lG.name).Nodup)/\(y.1=false->¬(ax.map (·.1)++xs.map lG.name).Nodup)):=by
 let nm:lG->ByteArray:=lG.name
 refine vz _ (aM 232) λB w0=>?_;refine go ?_;rw[show gL iR b ax=gL iR b (ax++fD ((xs.take 0).map nm) start)by simp[fD]];refine bQ (λk=>xs.length - k) (λk:Nat=>[(15,.int .i64 (k:Int))]) (λk=>[gL iR b (ax++fD ((xs.take k).map nm) start)]) (λ_=>[]) (λk=>k<=xs.length/\(ax.map (·.1)++(xs.take k).map nm).Nodup) 0 ⟨dK _,by simpa using hnd⟩ (body:=?_);rintro k ⟨hk,hall⟩;refine go ?_;refine aJ rfl (λh1=>?_) (λh1=>?_)
 ·refine go ?_;refine bZ jF (next:=λ_ _ x y hx=>?_);refine go ?_;intro b10;refine go ?_;refine ak (Xt (x:=x)) (next:=λ_ _=>?_);refine go ?_;refine Gc vJ (nm x) (λv hv hm=>?_) (λhm=>?_)
  ·refine go ?_;refine Bg ?_;refine go ?_;refine zI (false,(xs.take k).map nm) (hv:=rfl) (hp:=⟨(λh=>by cases h),λ_ hn=>?_⟩);rw[(qx hx).1]at hm;have hsub:(ax.map (·.1)++(xs.take k).map nm++[nm x]).Nodup:=by
    have e:xs.map nm=(xs.take k).map nm++nm x::(xs.drop (k+1)).map nm:=by
     conv=>lhs;rw[<- mM k xs]
     rw[di];congr 1;rw[nJ (aW.1 hx).1,fI,(aW.1 hx).2]
    rw[e,<- ed]at hn;rw[iN]at hn⊢;exact⟨hn.1,by simp,λa ha c hc=>hn.2.2 a ha c (by rw[bO.1 hc];exact bR ..)⟩
   rw[iN]at hsub;exact hsub.2.2 _ hm _ (bO.2 rfl) rfl
  refine go ?_;refine ak (Xt (x:=x)) (next:=λ_ _=>?_);refine go ?_;refine xR vJ (nm x) (ax:=ax++fD ((xs.take k).map nm) start) (v:=.int .i64 ((start:Int)+(k:Int))) ?_;have hm2:=hm;rw[(qx hx).1]at hm2;rw[Dr hm,ed,<- (qx (ax:=ax) hx).2];refine go ?_;refine bi (k+1) (by omega) ⟨by omega,?_⟩;rw[pg,hx,di,<- ed,iN];refine⟨hall,by simp,λa ha c hc=>?_⟩;have:c=nm x:=by simpa using hc
  subst this;intro e;subst e;exact hm2 ha
 have hkl:k=xs.length:=by omega
 subst hkl;rw[eH]at hall;rw[eH];refine go ?_;exact zH (true,xs.map nm) (hv:=rfl) (hp:=⟨λ_=>⟨rfl,hall⟩,λh=>by cases h⟩)
theorem ahP{vs:Value}{xs:List oN}{b start:Nat}{ax:List (ByteArray×Value)}(hl:xs.length<=4096)(hs:start<=4096)(hnd:(ax.map (·.1)).Nodup):
 oL Tryz.prog (.func 234) [vs,.int .i64 (start:Int),.func (.func 235) #[] #[],.map (some b)] [] [gL iR b ax] [ah kW vs xs] (λy:Bool×List ByteArray=>if y.1=true then .ok (.map (some b))else .fT (pQ 161))
  (λy=>[gL iR b (ax++fD y.2 start)]) (λ_=>[]) (λy=>(y.1=true->y.2=(xs.map oN.name)/\(ax.map (·.1)++xs.map oN.name).Nodup)/\(y.1=false->¬(ax.map (·.1)++xs.map oN.name).Nodup)):=by
 let nm:oN->ByteArray:=oN.name
 refine vz _ (aM 234) λB w0=>?_;refine go ?_;rw[show gL iR b ax=gL iR b (ax++fD ((xs.take 0).map nm) start)by simp[fD]];refine bQ (λk=>xs.length - k) (λk:Nat=>[(15,.int .i64 (k:Int))]) (λk=>[gL iR b (ax++fD ((xs.take k).map nm) start)]) (λ_=>[]) (λk=>k<=xs.length/\(ax.map (·.1)++(xs.take k).map nm).Nodup) 0 ⟨dK _,by simpa using hnd⟩ (body:=?_);rintro k ⟨hk,hall⟩;refine go ?_;refine aJ rfl (λh1=>?_) (λh1=>?_)
 ·refine go ?_;refine bZ kW (next:=λ_ _ x y hx=>?_);refine go ?_;intro b10;refine go ?_;refine ak (Xu (x:=x) (v:=y)) (next:=λ_ _=>?_);refine go ?_;refine Gc vJ (nm x) (λv hv hm=>?_) (λhm=>?_)
  ·refine go ?_;refine Bg ?_;refine go ?_;refine zI (false,(xs.take k).map nm) (hv:=rfl) (hp:=⟨(λh=>by cases h),λ_ hn=>?_⟩);rw[(qx hx).1]at hm;have hsub:(ax.map (·.1)++(xs.take k).map nm++[nm x]).Nodup:=by
    have e:xs.map nm=(xs.take k).map nm++nm x::(xs.drop (k+1)).map nm:=by
     conv=>lhs;rw[<- mM k xs]
     rw[di];congr 1;rw[nJ (aW.1 hx).1,fI,(aW.1 hx).2]
    rw[e,<- ed]at hn;rw[iN]at hn⊢;exact⟨hn.1,by simp,λa ha c hc=>hn.2.2 a ha c (by rw[bO.1 hc];exact bR ..)⟩
   rw[iN]at hsub;exact hsub.2.2 _ hm _ (bO.2 rfl) rfl
  refine go ?_;refine ak (Xu (x:=x) (v:=y)) (next:=λ_ _=>?_);refine go ?_;refine xR vJ (nm x) (ax:=ax++fD ((xs.take k).map nm) start) (v:=.int .i64 ((start:Int)+(k:Int))) ?_;have hm2:=hm;rw[(qx hx).1]at hm2;rw[Dr hm,ed,<- (qx (ax:=ax) hx).2];refine go ?_;refine bi (k+1) (by omega) ⟨by omega,?_⟩;rw[pg,hx,di,<- ed,iN];refine⟨hall,by simp,λa ha c hc=>?_⟩;have:c=nm x:=by simpa using hc
  subst this;intro e;subst e;exact hm2 ha
 have hkl:k=xs.length:=by omega
 subst hkl;rw[eH]at hall;rw[eH];refine go ?_;exact zH (true,xs.map nm) (hv:=rfl) (hp:=⟨λ_=>⟨rfl,hall⟩,λh=>by cases h⟩)
theorem ahQ{vs:Value}{xs:List iI}{b start:Nat}{ax:List (ByteArray×Value)}(hl:xs.length<=4096)(hs:start<=4096)(hnd:(ax.map (·.1)).Nodup):
 oL Tryz.prog (.func 239) [vs,.int .i64 (start:Int),.func (.func 240) #[] #[],.map (some b)] [] [gL iR b ax] [ah dX vs xs] (λy:Bool×List ByteArray=>if y.1=true then .ok (.map (some b))else .fT (pQ 161))
  (λy=>[gL iR b (ax++fD y.2 start)]) (λ_=>[]) (λy=>(y.1=true->y.2=(xs.map iI.name)/\(ax.map (·.1)++xs.map iI.name).Nodup)/\(y.1=false->¬(ax.map (·.1)++xs.map iI.name).Nodup)):=by
 let nm:iI->ByteArray:=iI.name
 refine vz _ (aM 239) λB w0=>?_;refine go ?_;rw[show gL iR b ax=gL iR b (ax++fD ((xs.take 0).map nm) start)by simp[fD]];refine bQ (λk=>xs.length - k) (λk:Nat=>[(15,.int .i64 (k:Int))]) (λk=>[gL iR b (ax++fD ((xs.take k).map nm) start)]) (λ_=>[]) (λk=>k<=xs.length/\(ax.map (·.1)++(xs.take k).map nm).Nodup) 0 ⟨dK _,by simpa using hnd⟩ (body:=?_);rintro k ⟨hk,hall⟩;refine go ?_;refine aJ rfl (λh1=>?_) (λh1=>?_)
 ·refine go ?_;refine bZ dX (next:=λ_ _ x y hx=>?_);refine go ?_;intro b10;refine go ?_;refine ak (Xv (x:=x)) (next:=λ_ _=>?_);refine go ?_;refine Gc vJ (nm x) (λv hv hm=>?_) (λhm=>?_)
  ·refine go ?_;refine Bg ?_;refine go ?_;refine zI (false,(xs.take k).map nm) (hv:=rfl) (hp:=⟨(λh=>by cases h),λ_ hn=>?_⟩);rw[(qx hx).1]at hm;have hsub:(ax.map (·.1)++(xs.take k).map nm++[nm x]).Nodup:=by
    have e:xs.map nm=(xs.take k).map nm++nm x::(xs.drop (k+1)).map nm:=by
     conv=>lhs;rw[<- mM k xs]
     rw[di];congr 1;rw[nJ (aW.1 hx).1,fI,(aW.1 hx).2]
    rw[e,<- ed]at hn;rw[iN]at hn⊢;exact⟨hn.1,by simp,λa ha c hc=>hn.2.2 a ha c (by rw[bO.1 hc];exact bR ..)⟩
   rw[iN]at hsub;exact hsub.2.2 _ hm _ (bO.2 rfl) rfl
  refine go ?_;refine ak (Xv (x:=x)) (next:=λ_ _=>?_);refine go ?_;refine xR vJ (nm x) (ax:=ax++fD ((xs.take k).map nm) start) (v:=.int .i64 ((start:Int)+(k:Int))) ?_;have hm2:=hm;rw[(qx hx).1]at hm2;rw[Dr hm,ed,<- (qx (ax:=ax) hx).2];refine go ?_;refine bi (k+1) (by omega) ⟨by omega,?_⟩;rw[pg,hx,di,<- ed,iN];refine⟨hall,by simp,λa ha c hc=>?_⟩;have:c=nm x:=by simpa using hc
  subst this;intro e;subst e;exact hm2 ha
 have hkl:k=xs.length:=by omega
 subst hkl;rw[eH]at hall;rw[eH];refine go ?_;exact zH (true,xs.map nm) (hv:=rfl) (hp:=⟨λ_=>⟨rfl,hall⟩,λh=>by cases h⟩)
theorem ahR{vs:Value}{xs:List bV}{b start:Nat}{ax:List (ByteArray×Value)}(hl:xs.length<=4096)(hs:start<=4096)(hnd:(ax.map (·.1)).Nodup):
 oL Tryz.prog (.func 243) [vs,.int .i64 (start:Int),.func (.func 244) #[] #[],.map (some b)] [] [gL iR b ax] [ah bT vs xs] (λy:Bool×List ByteArray=>if y.1=true then .ok (.map (some b))else .fT (pQ 161))
  (λy=>[gL iR b (ax++fD y.2 start)]) (λ_=>[]) (λy=>(y.1=true->y.2=(xs.map bV.name)/\(ax.map (·.1)++xs.map bV.name).Nodup)/\(y.1=false->¬(ax.map (·.1)++xs.map bV.name).Nodup)):=by
 let nm:bV->ByteArray:=bV.name
 refine vz _ (aM 243) λB w0=>?_;refine go ?_;rw[show gL iR b ax=gL iR b (ax++fD ((xs.take 0).map nm) start)by simp[fD]];refine bQ (λk=>xs.length - k) (λk:Nat=>[(15,.int .i64 (k:Int))]) (λk=>[gL iR b (ax++fD ((xs.take k).map nm) start)]) (λ_=>[]) (λk=>k<=xs.length/\(ax.map (·.1)++(xs.take k).map nm).Nodup) 0 ⟨dK _,by simpa using hnd⟩ (body:=?_);rintro k ⟨hk,hall⟩;refine go ?_;refine aJ rfl (λh1=>?_) (λh1=>?_)
 ·refine go ?_;refine bZ bT (next:=λ_ _ x y hx=>?_);refine go ?_;intro b10;refine go ?_;refine ak (Xw (x:=x) (v1:=y.1) (v2:=y.2)) (next:=λ_ _=>?_);refine go ?_;refine Gc vJ (nm x) (λv hv hm=>?_) (λhm=>?_)
  ·refine go ?_;refine Bg ?_;refine go ?_;refine zI (false,(xs.take k).map nm) (hv:=rfl) (hp:=⟨(λh=>by cases h),λ_ hn=>?_⟩);rw[(qx hx).1]at hm;have hsub:(ax.map (·.1)++(xs.take k).map nm++[nm x]).Nodup:=by
    have e:xs.map nm=(xs.take k).map nm++nm x::(xs.drop (k+1)).map nm:=by
     conv=>lhs;rw[<- mM k xs]
     rw[di];congr 1;rw[nJ (aW.1 hx).1,fI,(aW.1 hx).2]
    rw[e,<- ed]at hn;rw[iN]at hn⊢;exact⟨hn.1,by simp,λa ha c hc=>hn.2.2 a ha c (by rw[bO.1 hc];exact bR ..)⟩
   rw[iN]at hsub;exact hsub.2.2 _ hm _ (bO.2 rfl) rfl
  refine go ?_;refine ak (Xw (x:=x) (v1:=y.1) (v2:=y.2)) (next:=λ_ _=>?_);refine go ?_;refine xR vJ (nm x) (ax:=ax++fD ((xs.take k).map nm) start) (v:=.int .i64 ((start:Int)+(k:Int))) ?_;have hm2:=hm;rw[(qx hx).1]at hm2;rw[Dr hm,ed,<- (qx (ax:=ax) hx).2];refine go ?_;refine bi (k+1) (by omega) ⟨by omega,?_⟩;rw[pg,hx,di,<- ed,iN];refine⟨hall,by simp,λa ha c hc=>?_⟩;have:c=nm x:=by simpa using hc
  subst this;intro e;subst e;exact hm2 ha
 have hkl:k=xs.length:=by omega
 subst hkl;rw[eH]at hall;rw[eH];refine go ?_;exact zH (true,xs.map nm) (hv:=rfl) (hp:=⟨λ_=>⟨rfl,hall⟩,λh=>by cases h⟩)
end Go.Proofs.YtfakljdleblkoaaGreat
namespace Go.Proofs.YtfakljdleblkoaaGreat
open Go.Ideal Kd
noncomputable def PI:gU:=⟨9,[],(.seq (kO [⟨⟨(some 3),none,.recover⟩,[]⟩,kS 2 (.oq 3)]) (.seq (kO [kM 4 2,kS 5 (.bin .neq 20 4 (.const .nilIface))]) (.cond 5 (kO [⟨⟨(some 6),none,(.build [vE,vI,vI,vI,vI,vS,vS,vS,vS,vS] [])⟩,[]⟩,kM 7 2,kS 8 (.GY 40 vI false 7),kN (.store 10 0 6),kN (.store 1 1 8)]) .skip)))⟩
theorem Xy:lT Tryz.prog 231=some PI:=by kernel_rfl
section
variable {P:Program} {B:List Nat} {w0:Wd} {kl kl':List OA} {F:List aD} {K:KO} {ds:List Tmp} {rest:List bP} {n:Nat} {l:List (Nat×Value)} {D:List Deferred} {pm:Option FrameMode} {ro:Option Nat} {d:Nat} {g:Option (Tmp×Bool)}
theorem Xz{α:Type}[DecidableEq α]{aY:α->Value}{kt:TypeId}{zero:Value}{m k:Operand}{b:Nat}{ax:List (α×Value)}(hk:rY P kt aY)(a:α)
 (hit:∀v,dU a ax=some v->a∈ax.map (·.1)->R (λh=>aI P ds rest (act n ((d,.tuple ⟨[v,.bool true]⟩)::l) D pm ro) h K) B w0 kl F)
 (miss:a∉ax.map (·.1)->R (λh=>aI P ds rest (act n ((d,.tuple ⟨[zero,.bool false]⟩)::l) D pm ro) h K) B w0 kl F)
 (hm:ev l m=.map (some b):=by rfl) (ha:ev l k=aY a:=by conv=>lhs;whnf) (hf:xQ aY b ax∈F:=by exact tX) (hn:Nat.blt d n=true:=by rfl) (hg:bM l g=true:=by rfl):
 R (λh=>aI P ds (⟨⟨some d,g,.lookup kt zero m k true⟩,[]⟩::rest) (act n l D pm ro) h K) B w0 kl F:=by
 refine U5 (ok:=true) hk a ?_ hm ha hf hn hg;by_cases h:a∈ax.map (·.1)
 ·obtain⟨v,hv⟩:=F3 h;have e:kU true zero a ax=.tuple ⟨[v,.bool true]⟩:=by unfold kU;rw[hv];rfl
  rw[e];exact hit v hv h
 ·have e:kU true zero a ax=.tuple ⟨[zero,.bool false]⟩:=by unfold kU;rw[sj h];rfl
  rw[e];exact miss h
theorem PK{α:Type}(E:Enc α){v:Value}{ay:List (α×E.Y)}{Q:IH->Prop}(h0:ay=[]->∀c,v=.slice none 0 c->R Q B w0 kl F)(h1:ay=[]->∀i o f c,v=.slice (some ⟨i,o,some f⟩) 0 c->R Q B w0 kl F)
 (h2:0<ay.length->∀i o f c,v=.slice (some ⟨i,o,some f⟩) ay.length c->R Q B w0 kl F) (hf:rZ E v ay∈F:=by exact tX):R Q B w0 kl F:=λw s=>by
 rcases s.facts _ hf with⟨e,a,c,hv,hg⟩|⟨i,o,f,c,cells,⟨hv,_⟩,_⟩
 ·match a,hv,hg with
  |none,hv,_=>exact h0 e c hv w s
  |some ⟨i,o,some f⟩,hv,_=>exact h1 e i o f c hv w s
 ·by_cases hx:ay=[]
  ·subst hx;exact h1 rfl i o f c hv w s
  ·exact h2 (BZ.2 hx) i o f c hv w s
theorem PL{α:Type}(E:Enc α){Q:IH->Prop}(h:R Q B w0 (ar E (.slice none 0 0) []::kl) F):R Q B w0 kl F:=λw s=>by
 obtain⟨S,h1,h2,h3⟩:=s.own;exact h w ⟨s.agree,s.le,s.fE,⟨S,⟨[],S,.inl ⟨rfl,⟨none,rfl,trivial⟩,rfl⟩,h1,rfl⟩,h2,h3⟩,s.facts⟩
end
theorem ahS:aQ Tryz.prog (.func 237) [] [] [] [] (λv:Value=>v) (λ_=>[]) (λv=>[ah ji v Br]) (λ_=>True):=by
 refine aK Xr ahM λB w0=>?_;refine go ?_;intro b;refine go ?_;refine ug (b:=b) (m:=8) (f:=0) ji (ay:=Br.map λs=>(s,())) rfl (.inl rfl) ?_ (hk:=az.here);refine JF (E:=ji) ?_ (λw hw p hp f hf=>by cases hf);exact aj (.slice (some ⟨b,0,some 0⟩) 8 8) (hv:=rfl) (hp:=trivial) (hF:=.cons (bU _ (bR ..)) .nil)
theorem KH{b:Nat}{s:ByteArray}{ax:List (ByteArray×Value)}:
 oL Tryz.prog (.func 242) [.map (some b),.string s] [] [] [xQ iR b ax] (λy:Option Value=>match y with|some v=>.ok v|none=>.fT (pQ 160)) (λ_=>[]) (λ_=>[]) (λy=>y=dU s ax):=by
 refine vz _ (aM 242) λB w0=>?_;refine go ?_;refine Xz vJ s (λv hv hm=>?_) (λhm=>?_)
 ·refine go ?_;exact zH (some v) (hv:=rfl) (hp:=hv.symm)
 ·refine go ?_;refine Bg ?_;refine go ?_;exact zI none (hv:=rfl) (hp:=(sj hm).symm)
theorem ahT{eY l:List ByteArray}{k:Nat}{s:ByteArray}(h:l[k]? =some s):jX eY (l.take (k+1))=jX eY (l.take k)|||1<<<jB s eY:=by
 unfold jX;rw[pg,h,Aq];rfl
theorem XA{eY:List ByteArray}(hs:eY.length<=16):∀(l:List ByteArray) (m:Nat),(∀s∈l,s∈eY)->m<65536->l.foldl (λm s=>m|||1<<<jB s eY) m<65536
 |[],m,_,hm=>hm
 |s::l,m,h,hm=>by
  rw[sN];refine XA hs l _ (λx hx=>h x (bU _ hx)) ?_;have h1:=Bq (h s (bR ..));have h2:1<<<jB s eY<2^16:=by
   rw[Nat.shiftLeft_eq,wY];exact RI (by omega) (by omega)
  exact Ru (n:=16) hm h2
theorem XB{b4 bs:Nat}{vl:Value}{eY l:List ByteArray}(hs:eY.length<=16)(hl:l.length<9223372036854775808):
 oL Tryz.prog (.func 246) [vl] [ptr' b4] [] [bz b4 0 [.map (some bs)],xQ iR bs (fD eY 0),ah ji vl l] (λy:Bool=>if y=true then .ok (.int .i64 (jX eY l:Int))else .fT (pQ 160)) (λ_=>[]) (λ_=>[])
  (λy=>(y=true->∀s∈l,s∈eY)/\(y=false->¬∀s∈l,s∈eY)):=by
 refine vz _ (aM 246) λB w0=>?_;refine go ?_;refine bQ (λk=>l.length - k) (λk:Nat=>[(8,.int .i64 (k:Int)),(3,.int .i64 (jX eY (l.take k):Int))]) (λ_=>[]) (λ_=>[]) (λk=>k<=l.length/\∀s∈l.take k,s∈eY) 0 ⟨dK _,by simp⟩ (body:=?_);rintro k ⟨hk,hall⟩;refine go ?_;refine aJ rfl (λh1=>?_) (λh1=>?_)
 ·refine go ?_;refine bZ ji (next:=λ_ _ x (y:Unit) hx=>?_);refine go ?_;refine ql (KH (b:=bs) (s:=x) (ax:=fD eY 0)) (λy v hy e=>?_) (λy ch hy e=>?_)
  ·have hm:x∈eY:=by
    by_cases h:x∈eY
    ·exact h
    ·rw[sj (by rw[um];exact h)]at hy;subst hy;cases e
   rw[xZ hm]at hy;subst hy;injection e with e;subst e;have hp:=Bq hm;have h2:1<<<jB x eY<2^16:=by
    rw[Nat.shiftLeft_eq,wY];exact RI (by omega) (by omega)
   have h3:=XA hs (l.take k) 0 hall (by omega);rw[fw];refine(fF rfl rfl (UG (a:=1) (b:=jB x eY) rfl rfl (by omega) (by omega))).h ?_;refine(fF rfl rfl (UH (a:=jX eY (l.take k)) (b:=1<<<jB x eY) rfl rfl (Nat.lt_trans h3 (by omega)) (by omega))).h ?_;refine go ?_;refine bi (k+1) (by omega) ⟨by omega,λs hs'=>?_⟩ (hl:=⟨rfl,by rw[ahT hx];rfl,by repeat (first|exact trivial|refine⟨rfl,?_⟩)⟩);rw[pg,hx]at hs';rcases gH.1 hs' with h|h
   ·exact hall s h
   ·have:s=x:=by simpa using h
    rw[this];exact hm
  ·refine go ?_;have hm:x∉eY:=by
    intro h;rw[xZ h]at hy;subst hy;cases e
   have hch:ch=pQ 160:=by
    rw[sj (by rw[um];exact hm)]at hy;subst hy;injection e with e;exact e.symm
   subst hch;exact zI false (hv:=rfl) (hp:=⟨(λh=>by cases h),λ_ h=>hm (h x (aR hx))⟩)
 have hkl:k=l.length:=by omega
 subst hkl;rw[eH]at hall⊢;refine go ?_;exact zH true (hv:=rfl) (hp:=⟨λ_=>hall,λh=>by cases h⟩)
theorem ahU{v:Value}{ay:List (iI×dX.Y)}(hl:ay.length<=4096):aQ Tryz.prog (.func 241) [v] [] [] [rZ dX v ay] (λv':Value=>v') (λv'=>[ar dX v' ay]) (λ_=>[]) (λ_=>True):=by
 refine aK _ (aM 241) λB w0=>?_;refine PK (v:=v) (ay:=ay) dX (λe c ev=>?_) (λe i o f c ev=>?_) (λhne i o f c ev=>?_)
 ·subst e ev;refine go ?_;refine(fF rfl rfl (Dk (e:=62) (by kernel_rfl) rfl)).h ?_;refine go ?_;refine PL dX ?_;exact aj (.slice none 0 0) (hv:=rfl) (hp:=trivial)
 ·subst e ev;refine go ?_;refine(fF rfl rfl (wG (e:=62) (by kernel_rfl) rfl)).h ?_;refine go ?_;intro b;refine go ?_;refine FT (b:=b) ?_;refine go ?_;refine ug (b:=b) (m:=0) (f:=0) dX (ay:=[]) rfl (.inl rfl) ?_ (hk:=az.here);exact aj (.slice (some ⟨b,0,some 0⟩) 0 0) (hv:=rfl) (hp:=trivial)
 ·subst ev;refine go ?_;refine(fF rfl rfl (wG (e:=62) (by kernel_rfl) rfl)).h ?_;refine go ?_;intro b;refine go ?_;refine FU (b:=b) dX ay hne (by omega) (λb'=>?_);refine go ?_;refine ug (b:=b') (m:=ay.length) (f:=dX.n) dX (ay:=ay) rfl (.inr rfl) ?_ (hk:=az.here);exact aj (.slice (some ⟨b',0,some dX.n⟩) ay.length ay.length) (hv:=rfl) (hp:=trivial)
theorem ahV{v:Value}{ay:List (bV×bT.Y)}(hl:ay.length<=4096):aQ Tryz.prog (.func 245) [v] [] [] [rZ bT v ay] (λv':Value=>v') (λv'=>[ar bT v' ay]) (λ_=>[]) (λ_=>True):=by
 refine aK _ (aM 245) λB w0=>?_;refine PK (v:=v) (ay:=ay) bT (λe c ev=>?_) (λe i o f c ev=>?_) (λhne i o f c ev=>?_)
 ·subst e ev;refine go ?_;refine(fF rfl rfl (Dk (e:=93) (by kernel_rfl) rfl)).h ?_;refine go ?_;refine PL bT ?_;exact aj (.slice none 0 0) (hv:=rfl) (hp:=trivial)
 ·subst e ev;refine go ?_;refine(fF rfl rfl (wG (e:=93) (by kernel_rfl) rfl)).h ?_;refine go ?_;intro b;refine go ?_;refine FT (b:=b) ?_;refine go ?_;refine ug (b:=b) (m:=0) (f:=0) bT (ay:=[]) rfl (.inl rfl) ?_ (hk:=az.here);exact aj (.slice (some ⟨b,0,some 0⟩) 0 0) (hv:=rfl) (hp:=trivial)
 ·subst ev;refine go ?_;refine(fF rfl rfl (wG (e:=93) (by kernel_rfl) rfl)).h ?_;refine go ?_;intro b;refine go ?_;refine FU (b:=b) bT ay hne (by omega) (λb'=>?_);refine go ?_;refine ug (b:=b') (m:=ay.length) (f:=bT.n) bT (ay:=ay) rfl (.inr rfl) ?_ (hk:=az.here);exact aj (.slice (some ⟨b',0,some bT.n⟩) ay.length ay.length) (hv:=rfl) (hp:=trivial)
end Go.Proofs.YtfakljdleblkoaaGreat
set_option maxHeartbeats 4000000
namespace Go.Proofs.YtfakljdleblkoaaGreat
open Go.Ideal Kd
noncomputable def KI:gU:=⟨128,[(.nN 10 2),(.cell1 3)],(.seq (kO [kS 1 (.box 0 28),⟨⟨(some 2),none,(.new [vE,vI,vI,vI,vI,vS,vS,vS,vS,vS] 28)⟩,[]⟩,kS 3 (.new [vI] 40)]) (.seq (kO [kS 11 (.Cj (.func 231) [] [2,3]),kN (.dcall 11 [])]) (.seq (.seq (kO [kS 12 (.fZ 6 1),kS 13 (.gI 12),kS 14 (.xg 13),kS 15 (.bin .gtr 3 14 (kI 16))]) (.cond 15 (.seq (kO [kS 16 (.pW 10 2),kN (.store 10 2 16),kN (.store 1 3 (kI 2))]) .ret) .skip)) (.seq (kO [kS 17 (.fZ 6 1),kS 18 (.gI 17),⟨⟨(some 19),none,.vW⟩,[]⟩,kS 20 (kC 232 [18,(kI 0),(.func 233),19]),kS 4 (.new [(.map none)] 227),kN (.store 1 4 20)]) (.seq (.ops [21,22,23,24,25,26,5] [kS 21 (.fZ 7 1),kS 22 (.gI 21),⟨⟨(some 24),none,.vW⟩,[]⟩,⟨⟨(some 23),none,(kC 237 [])⟩,[⟨(some 22),none,(.gI 21)⟩]⟩,⟨⟨(some 25),none,(kC 236 [23,(kI 0),(.func 238),24])⟩,[⟨(some 22),none,(.gI 21)⟩]⟩,kS 26 (kC 234 [22,(kI 8),(.func 235),25]),kS 5 (.oq 26)]) (.seq (kO [kS 27 (.fZ 8 1),kS 28 (.gI 27),⟨⟨(some 29),none,.vW⟩,[]⟩,kS 30 (kC 239 [28,(kI 0),(.func 240),29]),kS 6 (.oq 30)]) (.seq (kO [kS 31 (.fZ 8 1),kS 32 (.gI 31),kS 33 (kC 241 [32]),kS 34 (.fZ 8 1),kN (.store 1 34 33)]) (.seq (.seq (kO [kS 35 (.fZ 8 1),kS 36 (.gI 35),kS 37 (.xg 36),kS 38 (.mv (kI 0))]) (.block 0 (.loop (.seq (kO [kS 39 (.bin .lss 3 38 37)]) (.seq (.cond 39 .skip (.exit 0)) (.seq (.block 1 (.seq (kO [kM 40 38,kS 7 (.oq 40)]) (.ops [41,42,43,44,45,46,47,48,49,50,51,52,53] [kS 41 (.fZ 8 1),kS 42 (.gI 41),kM 43 7,kM 44 5,kS 45 (.fZ 8 1),kS 46 (.gI 45),kM 47 7,kS 48 (.mX 6 46 47),kS 49 (.fZ 1 48),kS 50 (.gI 49),⟨⟨(some 51),none,(kC 242 [44,50])⟩,[⟨(some 42),none,(.gI 41)⟩]⟩,kS 52 (.mX 6 42 43),kS 53 (.fZ 2 52),kN (.store 1 53 51)]))) (kO [kS 54 (.bin .add 3 38 (kI 1)),kM 38 54]))))))) (.seq (kO [kS 55 (.fZ 9 1),kS 56 (.gI 55),⟨⟨(some 57),none,.vW⟩,[]⟩,kS 58 (kC 243 [56,(kI 0),(.func 244),57])]) (.seq (kO [kS 59 (.fZ 9 1),kS 60 (.gI 59),kS 61 (kC 245 [60]),kS 62 (.fZ 9 1),kN (.store 1 62 61)]) (.seq (kO [kS 63 (.Cj (.func 246) [] [4]),kS 8 (.oq 63)]) (.seq (.seq (kO [kS 64 (.fZ 9 1),kS 65 (.gI 64),kS 66 (.xg 65),kS 67 (.mv (kI 0))]) (.block 2 (.loop (.seq (kO [kS 68 (.bin .lss 3 67 66)]) (.seq (.cond 68 .skip (.exit 2)) (.seq (.block 3 (.seq (kO [kM 69 67,kS 9 (.oq 69)]) (.seq (kO [kS 70 (.fZ 9 1),kS 71 (.gI 70),kM 72 9,kS 73 (.mX 12 71 72),kS 10 (.oq 73)]) (.seq (kO [kM 74 10,kM 75 10,kS 76 (.lg 74),kS 77 (.fZ 3 76),kN (.store 1 77 (kI 0)),kS 78 (.lg 75),kS 79 (.fZ 11 78),kN (.store 1 79 (.const (.int .i64 (-1))))]) (.seq (.seq (kO [kM 80 10,kS 81 (.lg 80),kS 82 (.fZ 1 81),kS 83 (.gI 82),⟨⟨(some 84),none,(.bin .neq 9 83 (.const vE))⟩,[]⟩]) (.cond 84 (kO [kM 85 10,kM 86 5,kM 87 10,kS 88 (.lg 87),kS 89 (.fZ 1 88),kS 90 (.gI 89),kS 91 (kC 242 [86,90]),kS 92 (.lg 85),kS 93 (.fZ 3 92),kN (.store 1 93 91)]) .skip)) (.seq (.ops [94,95,96,97,98,99,100,101,102,103,104,105,106,107,108,109,110,111] [kM 94 10,kM 95 10,kM 96 8,kM 97 10,kS 98 (.lg 97),kS 99 (.fZ 4 98),kS 100 (.gI 99),kM 102 8,kM 103 10,kS 104 (.lg 103),kS 105 (.fZ 5 104),kS 106 (.gI 105),⟨⟨(some 101),none,(.call 96 [100])⟩,[⟨(some 106),none,(.gI 105)⟩]⟩,kS 107 (.call 102 [106]),kS 108 (.lg 94),kS 109 (.fZ 6 108),kN (.store 1 109 101),kS 110 (.lg 95),kS 111 (.fZ 7 110),kN (.store 1 111 107)]) (.seq (kO [kM 112 10,kS 113 (.lg 112),kS 114 (.fZ 10 113),kS 115 (.gI 114),⟨⟨(some 116),none,(.bin .neq 9 115 (.const vE))⟩,[]⟩]) (.cond 116 (kO [kM 117 10,kM 118 6,kM 119 10,kS 120 (.lg 119),kS 121 (.fZ 10 120),kS 122 (.gI 121),kS 123 (kC 242 [118,122]),kS 124 (.lg 117),kS 125 (.fZ 11 124),kN (.store 1 125 123)]) .skip)))))))) (kO [kS 126 (.bin .add 3 67 (kI 1)),kM 67 126]))))))) (.seq (kO [kS 127 (.pW 10 1),kN (.store 10 2 127),kN (.store 1 3 (kI 0))]) .ret)))))))))))))⟩
theorem ahW:lT Tryz.prog 172=some KI:=by kernel_rfl
theorem rq(a b:ByteArray):(a.toList==b.toList)=decide (a=b):=by
 rw[ByteArray.toList_eq,ByteArray.toList_eq];by_cases h:a=b
 ·subst h;simp
 ·rw[dM h];cases hb:a.data.toList==b.data.toList with
  |false=>rfl
  |true=>
   have:=eq_of_beq hb;exact absurd (ByteArray.ext (Array.ext' this)) h
abbrev wN:List Value:=[.string ⟨⟨[]⟩⟩,.int .i64 0,.int .i64 0,.int .i64 0,.int .i64 0,.slice none 0 0,.slice none 0 0,.slice none 0 0,.slice none 0 0,.slice none 0 0]
theorem ahX{b2 b3:Nat}:Dh Tryz.prog (.func 231) [] [ptr' b2,ptr' b3] .returning [] [] (λ_:Unit=>.ok (.tuple ⟨[]⟩)) (λ_=>.returning) (λ_=>[]) (λ_=>[]) (λ_=>True):=by
 refine Jv PI Xy λB w0=>?_;refine go ?_;refine Jy (v:=.nilIface) (m':=.returning) rfl ?_;refine go ?_;refine(fF (v:=.bool false) rfl rfl (λh=>by
  show(match kD Tryz.prog .neq 20 (.tmp 4) (.const .nilIface) .nilIface .nilIface with|some v=>some (v,h)|none=>none)=_;rw[show kD Tryz.prog .neq 20 (.tmp 4) (.const .nilIface) .nilIface .nilIface=some (.bool false)by kernel_rfl])).h ?_
 refine go ?_;exact JA () (hv:=rfl) (hm:=rfl) (hp:=trivial)
theorem ahY{b2 b3:Nat}{e:Int}(he:e=160\/e=161):Dh Tryz.prog (.func 231) [] [ptr' b2,ptr' b3] (.panicking (pQ e)) [pt b2 (.cells wN),pt b3 (.cells [.int .i64 0])] [] (λ_:Unit=>.ok (.tuple ⟨[]⟩)) (λ_=>.panicking [{v:=.iface 40 (.int .i64 e),recovered:=true}])
 (λ_=>[pt b2 (.cells wN),pt b3 (.cells [.int .i64 e])]) (λ_=>[]) (λ_=>True):=by
 refine Jv PI Xy λB w0=>?_;refine go ?_;refine Jy (v:=.iface 40 (.int .i64 e)) (m':=.panicking [{v:=.iface 40 (.int .i64 e),recovered:=true}]) rfl ?_;refine go ?_;refine(fF (v:=.bool true) rfl rfl (λh=>by
  show(match kD Tryz.prog .neq 20 (.tmp 4) (.const .nilIface) (.iface 40 (.int .i64 e)) .nilIface with|some v=>some (v,h)|none=>none)=_;rcases he with rfl|rfl
  ·rw[show kD Tryz.prog .neq 20 (.tmp 4) (.const .nilIface) (.iface 40 (.int .i64 160)) .nilIface=some (.bool true)by kernel_rfl]
  ·rw[show kD Tryz.prog .neq 20 (.tmp 4) (.const .nilIface) (.iface 40 (.int .i64 161)) .nilIface=some (.bool true)by kernel_rfl])).h ?_
 refine go ?_;exact JA () (hv:=rfl) (hm:=rfl) (hp:=trivial)
structure Gd where
 ok:Bool
 e:Int
 vc:Value
 vu:Value
abbrev zV(d:dN)(vh vs vr:Value)(y:Gd):Value:=.tuple ⟨[.agg ⟨cond y.ok (mP (Kd.dV d) vh vs vr y.vc y.vu) wN⟩,.int .i64 y.e]⟩
abbrev uz(d:dN)(y:Gd):List aD:=cond y.ok [ah dX y.vc (Kd.dV d).bI,ah bT y.vu (Kd.dV d).rules] []
def DL(d:dN)(y:Gd):Prop:=(y.ok=true->y.e=0/\Du d)/\(y.ok=false->y.e≠0/\¬Du d)
structure ru(d:dN):Prop where
 eY:d.symbols.length<=4096
 regs:d.regions.length<=4096
 mE:d.bI.length<=4096
 nX:d.rules.length<=4096
 DN:∀r∈d.rules,r.names.length<9223372036854775808/\r.others.length<9223372036854775808
 holes:d.holes.length<9223372036854775808
 DR:∀r∈d.regions,r.lists.length<9223372036854775808/\∀l∈r.lists,l.length<9223372036854775808
section
variable {B:List Nat} {w0:Wd} {kl aT:List OA} {F:List aD} {l:List (Nat×Value)} {b2 b3:Nat} {n:Nat}
theorem yA{d:dN}{vh vs vr:Value}{e:Int}(he:e=160\/e=161)(hno:¬Du d)(h2:lk l 2=ptr' b2)(h3:lk l 3=ptr' b3)(hk:aO [pt b2 (.cells wN),pt b3 (.cells [.int .i64 0])] kl aT):
 R (λh=>pE Tryz.prog KI (xP B w0 (λy=>.ok (zV d vh vs vr y)) (λ_=>[]) (uz d) (DL d)) (.panic (pQ e)) (act n l [{target:=.fn (.func 231) ⟨[ptr' b2,ptr' b3]⟩,args:=⟨[]⟩}] none none) h) B w0 kl F:=by
 refine Bh (m:=.panicking (pQ e)) ?_;refine Jz (aT:=aT) (dS:=λ_=>[pt b2 (.cells wN),pt b3 (.cells [.int .i64 e])]++aT) (F2:=λ_=>F) (ahY (b2:=b2) (b3:=b3) he) (λy v _ _=>?_) (λy ch _ hc=>by cases hc) (hk:=hk) (hF:=.nil) (hk2:=λ_=>aX.app) (hF2:=λ_=>aX.nil);show RL _ _ _ _ .returning _ _ _ _ _;refine JB (aT:=[pt b2 (.cells wN),pt b3 (.cells [.int .i64 e])]++aT) (vs:=[.agg ⟨wN⟩,.int .i64 e]) ⟨false,e,.nilFunc,.nilFunc⟩ rfl ⟨(λh=>by cases h),λ_=>⟨by rcases he with rfl|rfl<;>simp,hno⟩⟩ (hr:=?_) (hk:=.nil) (hF:=.nil);show RS l _ [.nN 10 2,.cell1 3] _;exact .nN h2 .here rfl (.cell1 h3 (.there .here) rfl .nil)
end
section
variable {B:List Nat} {w0:Wd} {kl aT:List OA} {F:List aD} {l:List (Nat×Value)} {b2 b3:Nat} {n:Nat}
theorem XC{d:dN}{vh vs vr:Value}{o:Out}{cs:List Value}{e:Int}(y:Gd)(ho:tq o=some .returning)(hcs:cs=cond y.ok (mP (Kd.dV d) vh vs vr y.vc y.vu) wN)(hl:cs.length=10)(hy:y.e=e)(hp:DL d y)(hF:∀w,(∀f∈F,f.p w)->∀f∈uz d y,f.p w)(h2:lk l 2=ptr' b2)(h3:lk l 3=ptr' b3)(hk:aO [pt b2 (.cells cs),pt b3 (.cells [.int .i64 e])] kl aT):
 R (λh=>pE Tryz.prog KI (xP B w0 (λy=>.ok (zV d vh vs vr y)) (λ_=>[]) (uz d) (DL d)) o (act n l [{target:=.fn (.func 231) ⟨[ptr' b2,ptr' b3]⟩,args:=⟨[]⟩}] none none) h) B w0 kl F:=by
 refine Bh (m:=.returning) ?_ ho;refine Jz (k1:=[]) (aT:=kl) (dS:=λ_=>kl) (F2:=λ_=>F) (ahX (b2:=b2) (b3:=b3)) (λ_ v _ _=>?_) (λ_ ch _ hc=>by cases hc) (hk:=.nil) (hF:=.nil) (hk2:=λ_=>aX.nil) (hF2:=λ_=>aX.nil);show RL _ _ _ _ .returning _ _ _ _ _;intro w s;have s':St B w0 ([pt b2 (.cells cs),pt b3 (.cells [.int .i64 e])]++aT) (uz d y) w:=by
  have:=s.jy hk;exact⟨this.agree,this.le,this.fE,this.own,hF w this.facts⟩
 refine JB (F:=uz d y) (aT:=[pt b2 (.cells cs),pt b3 (.cells [.int .i64 e])]++aT) (vs:=[.agg ⟨cs⟩,.int .i64 e]) y ?_ hp (hr:=?_) (hk:=.nil) (hF:=?_) w s'
 ·show iO.ok (zV d vh vs vr y)=_;unfold zV;rw[<- hcs,hy];rfl
 ·show RS l _ [.nN 10 2,.cell1 3] _;exact .nN h2 .here (by rw[qL,rO,Er,if_pos (by omega),<- hl,eH]) (.cell1 h3 (.there .here) rfl .nil)
 ·have:∀k:List aD,Sub k k:=λk=>by
   have:=Sub.refl' k [];simpa using this
  exact this _
end
theorem DT{X:List (bV×bT.Y)}{k:Nat}(hk:k<X.length){q q':bV×bT.Y}{j:Nat}{v:Value}(h:(bT.pat q.1 q.2).set j v=bT.pat q'.1 q'.2)(hj:j<12):(dD bT (X.set k q)).set (0+k*12+j) v=dD bT (X.set k q'):=by
 rw[fw];have:=Oi (E:=bT) (ay:=X.set k q) (k:=k) (p:=q) (p':=q') (by rw[mV,if_pos rfl,if_pos hk]) h hj;rw[List.set_set]at this;exact this
theorem BA{X:List (bV×bT.Y)}{k:Nat}(hk:k<X.length){q:bV×bT.Y}{j:Nat}{u:Value}(h:(bT.pat q.1 q.2)[j]? =some u):(dD bT (X.set k q))[0+k*12+j]? =some u:=by
 rw[fw];exact wF (E:=bT) (ay:=X.set k q) (k:=k) (by rw[mV,if_pos rfl,if_pos hk]) h
theorem DU{X:List (bV×bT.Y)}{k:Nat}(hk:k<X.length){q:bV×bT.Y}{j:Nat}(hj:j<12):0+k*12+j<(dD bT (X.set k q)).length:=by
 rw[wE,nM];show 0+k*12+j<X.length*12;omega
theorem XD{d:dN}{vh vs vr vc vu:Value}(hS:ru d):aQ Tryz.prog (.func 172) [.agg ⟨mP d vh vs vr vc vu⟩] [] [] (ul d vh vs vr vc vu) (zV d vh vs vr) (λ_=>[]) (uz d) (DL d):=by
 refine oL.toC _ ?_ (λ_ _=>rfl);have hsl:=hS.eY;have hrl:=hS.regs;have hcl:=hS.mE;have BB:=hS.nX;refine vz KI ahW λB w0=>?_;refine go ?_;intro b1 b2 b3;refine go ?_;refine Oa ?_;refine go ?_;refine aJ rfl (λh1=>?_) (λh1=>?_)
 ·refine go ?_;exact XC (e:=2) (cs:=wN) ⟨false,2,.nilFunc,.nilFunc⟩ rfl rfl rfl rfl ⟨(λh=>by cases h),λ_=>⟨by simp,λh=>by have:=h.eY;omega⟩⟩ (λw _ f hf=>by cases hf) rfl rfl (by repeat (first|exact aO.nil|(apply aO.cons;(focus (repeat (first|exact az.here|apply az.there))))))
 have hsy:(gY d).length<=16:=by show(d.symbols.map (·.name)).length<=16;rw[bJ];omega
 refine go ?_;refine zJ iR (λbs=>?_);refine go ?_;refine ql (ahO (b:=bs) (start:=0) (ax:=[]) hsl (by omega) yU) (λy v hy e=>?_) (λy ch hy e=>?_)
 rotate_left
 ·obtain⟨y,ns⟩:=y;cases y with
  |true=>cases e
  |false=>
   injection e with e;subst e;refine go ?_;exact yA (e:=161) (.inr rfl) (λh=>hy.2 rfl (by simpa[gY]using h.af1)) rfl rfl (by repeat (first|exact aO.nil|(apply aO.cons;(focus (repeat (first|exact az.here|apply az.there))))))
 obtain⟨y,ns⟩:=y;cases y with
 |false=>cases e
 |true=>
 injection e with e;subst e;have hns:ns=gY d:=(hy.1 rfl).1;have hsn:(gY d).Nodup:=by have:=(hy.1 rfl).2;simpa[gY]using this
 clear hy;subst hns;dsimp only;rw[show([]:List (ByteArray×Value))++fD _ 0=fD _ 0 from rfl];refine aZ (Di (b:=bs)) (h:=?_);refine go ?_;intro b4;refine go ?_;refine zJ iR (λbf=>?_);refine ak ahS (next:=λvg _=>?_);refine ql (ahN (b:=bf) (xs:=Br) (start:=0) (ax:=[]) (by decide) (by omega) yU) (λy v hy e=>?_) (λy ch hy e=>?_)
 rotate_left
 ·obtain⟨y,ns⟩:=y;cases y with
  |true=>cases e
  |false=>exact absurd (by decide) (hy.2 rfl)
 obtain⟨y,ns⟩:=y;cases y with
 |false=>cases e
 |true=>
 injection e with e;subst e;have hns:ns=Br:=(hy.1 rfl).1;clear hy;subst hns;dsimp only;rw[show([]:List (ByteArray×Value))++fD _ 0=fD _ 0 from rfl];refine ql (ahP (b:=bf) (start:=8) (ax:=fD Br 0) hrl (by omega) (by rw[um];decide)) (λy v hy e=>?_) (λy ch hy e=>?_)
 rotate_left
 ·obtain⟨y,ns⟩:=y;cases y with
  |true=>cases e
  |false=>
   injection e with e;subst e;refine go ?_;exact yA (e:=161) (.inr rfl) (λh=>hy.2 rfl (by rw[um];exact h.af2)) rfl rfl (by repeat (first|exact aO.nil|(apply aO.cons;(focus (repeat (first|exact az.here|apply az.there))))))
 obtain⟨y,ns⟩:=y;cases y with
 |false=>cases e
 |true=>
 injection e with e;subst e;have hns:ns=d.regions.map oN.name:=(hy.1 rfl).1;have hfn:(gM d).Nodup:=by have:=(hy.1 rfl).2;rw[um]at this;exact this
 clear hy;subst hns;dsimp only;have hfe:fD Br 0++fD (d.regions.map oN.name) 8=fD (gM d) 0:=by
  unfold gM;rw[OI];rfl
 rw[hfe];clear hfe;refine aZ (Di (b:=bf)) (h:=?_);refine go ?_;refine zJ iR (λbc=>?_);refine go ?_;refine ql (ahQ (b:=bc) (start:=0) (ax:=[]) hcl (by omega) yU) (λy v hy e=>?_) (λy ch hy e=>?_)
 rotate_left
 ·obtain⟨y,ns⟩:=y;cases y with
  |true=>cases e
  |false=>
   injection e with e;subst e;refine go ?_;exact yA (e:=161) (.inr rfl) (λh=>hy.2 rfl (by simpa[kX]using h.af3)) rfl rfl (by repeat (first|exact aO.nil|(apply aO.cons;(focus (repeat (first|exact az.here|apply az.there))))))
 obtain⟨y,ns⟩:=y;cases y with
 |false=>cases e
 |true=>
 injection e with e;subst e;have hns:ns=kX d:=(hy.1 rfl).1;have hcn:(kX d).Nodup:=by have:=(hy.1 rfl).2;simpa[kX]using this
 clear hy;subst hns;dsimp only;rw[show([]:List (ByteArray×Value))++fD _ 0=fD _ 0 from rfl];refine aZ (Di (b:=bc)) (h:=?_);refine go ?_;refine FQ dX vc (λxc DV=>?_);have hxl:xc.length=d.bI.length:=by rw[<- DV,bJ]
 refine ak (ahU (ay:=xc) (by omega)) (next:=λv1 _=>?_);refine Vd (E:=dX) (v:=v1) (ay:=xc) (λa1 e1=>?_);subst e1;refine go ?_;let f1:iI×dX.Y->iI×dX.Y:=λp=>(Dt (gM d) p.1,p.2)
 rw[show ar dX (.slice a1 xc.length xc.length) xc=ar dX (.slice a1 xc.length xc.length) (jH f1 0 xc)from rfl];refine bQ (λk=>xc.length - k) (λk:Nat=>[(38,.int .i64 (k:Int))]) (λk=>[ar dX (.slice a1 xc.length xc.length) (jH f1 k xc)]) (λ_=>[]) (λk=>k<=xc.length/\∀p∈xc.take k,p.1.on∈gM d) 0 ⟨dK _,by simp⟩ (body:=?_);rintro k ⟨hk,hall⟩;refine go ?_;refine aJ rfl (λh2=>?_) (λh2=>?_)
 ·refine go ?_;refine Vb (E:=dX) (ay:=jH f1 k xc) (by rw[zO];omega) (λbx fx hfx ev=>?_);injection ev with ea _ _;subst ea;refine go ?_;obtain⟨p,hp⟩:∃p,xc[k]? =some p:=⟨xc[k]'(by omega),bC _⟩
  have hget:(jH f1 k xc)[k]? =some p:=by rw[VX _ (by omega)];exact hp
  have kQ:p.1∈d.bI:=by rw[<- DV];exact LV (aR hp)
  refine pF (o:=0+k*6+1) (cs:=dD dX (jH f1 k xc)) (.string p.1.on) (by rw[fw];exact wF (E:=dX) (j:=1) hget rfl) ?_;refine ql (KH (b:=bf) (s:=p.1.on) (ax:=fD (gM d) 0)) (λy v hy e=>?_) (λy ch hy e=>?_)
  rotate_left
  ·have hm:p.1.on∉gM d:=by
    intro h;rw[xZ h]at hy;subst hy;cases e
   rw[sj (by rw[um];exact hm)]at hy;subst hy;injection e with e;subst e;refine go ?_;exact yA (e:=160) (.inl rfl) (λh=>hm (h.VV p.1 kQ)) rfl rfl (by repeat (first|exact aO.nil|(apply aO.cons;(focus (repeat (first|exact az.here|apply az.there))))))
  have hm:p.1.on∈gM d:=by
   by_cases h:p.1.on∈gM d
   ·exact h
   ·rw[sj (by rw[um];exact h)]at hy;subst hy;cases e
  rw[xZ hm]at hy;subst hy;injection e with e;subst e;rw[fw];refine go ?_;refine mD (o:=0+k*6+2) (cs:=dD dX (jH f1 k xc)) (cs':=dD dX (jH f1 (k+1) xc)) (v:=.int .i64 ((jB p.1.on (gM d):Nat):Int)) (by rw[fw,<- VY f1 hp];exact Oi (E:=dX) (j:=2) (p':=f1 p) hget rfl (by decide)) (by rw[wE,zO];show 0+k*6+2<xc.length*6;omega) ?_;refine go ?_;refine ug (b:=bx) (f:=fx) (m:=xc.length) dX (ay:=jH f1 (k+1) xc) (by rw[zO]) hfx ?_;refine bi (k+1) (by omega) ⟨by omega,λq hq=>?_⟩;rw[pg,hp]at hq;rcases gH.1 hq with h|h
  ·exact hall q h
  ·have:q=p:=by simpa using h
   rw[this];exact hm
 have hkl:k=xc.length:=by omega
 subst hkl;rw[eH]at hall;have hcon:∀c∈d.bI,c.on∈gM d:=by
  intro c hc;rw[<- DV]at hc;obtain⟨p,hp,rfl⟩:=cZ.1 hc;exact hall p hp
 clear hall hk;rw[VW];refine go ?_;refine zJ iR (λbu=>?_);refine go ?_;refine ql (ahR (b:=bu) (start:=0) (ax:=[]) BB (by omega) yU) (λy v hy e=>?_) (λy ch hy e=>?_)
 rotate_left
 ·obtain⟨y,ns⟩:=y;cases y with
  |true=>cases e
  |false=>
   injection e with e;subst e;refine go ?_;exact yA (e:=161) (.inr rfl) (λh=>hy.2 rfl (by simpa[JX]using h.af4)) rfl rfl (by repeat (first|exact aO.nil|(apply aO.cons;(focus (repeat (first|exact az.here|apply az.there))))))
 obtain⟨y,ns⟩:=y;cases y with
 |false=>cases e
 |true=>
 injection e with e;subst e;have hrn:(JX d).Nodup:=by have:=(hy.1 rfl).2;simpa[JX]using this
 clear hy;dsimp only;refine aZ (Di (b:=bu)) (h:=?_);refine go ?_;refine FQ bT vu (λxr nY=>?_);have am7:xr.length=d.rules.length:=by rw[<- nY,bJ]
 refine ak (ahV (ay:=xr) (by omega)) (next:=λv2 _=>?_);refine Vd (E:=bT) (v:=v2) (ay:=xr) (λa2 e2=>?_);subst e2;refine go ?_;refine aZ (dH (b:=b4)) (h:=?_);refine go ?_;let f2:bV×bT.Y->bV×bT.Y:=λp=>(vB (gY d) (gM d) (kX d) p.1,p.2)
 rw[show ar bT (.slice a2 xr.length xr.length) xr=ar bT (.slice a2 xr.length xr.length) (jH f2 0 xr)from rfl];refine Oj (E:=bT) (v:=vu) (ay:=xr) ?_;refine bQ (λk=>xr.length - k) (λk:Nat=>[(67,.int .i64 (k:Int))]) (λk=>[ar bT (.slice a2 xr.length xr.length) (jH f2 k xr)]) (λ_=>[]) (λk=>k<=xr.length/\∀p∈xr.take k,OJ (gY d) (gM d) (kX d) p.1) 0 ⟨dK _,by simp⟩ (body:=?_);rintro k ⟨hk,hall⟩;refine go ?_;refine aJ rfl (λh2=>?_) (λh2=>?_)
 ·refine go ?_;refine Vb (E:=bT) (ay:=jH f2 k xr) (by rw[zO];omega) (λiZ fy XE ev=>?_);injection ev with ea _ _;subst ea;obtain⟨p,hp⟩:∃p,xr[k]? =some p:=⟨xr[k]'(by omega),bC _⟩
  have hpm:=aR hp;have hget:(jH f2 k xr)[k]? =some p:=by rw[VX _ (by omega)];exact hp
  have kQ:p.1∈d.rules:=by rw[<- nY];exact LV hpm
  have hfin:=VY f2 hp;obtain⟨r,v3,v4⟩:=p;have hrs:=hS.DN r kQ;have mI:k<(jH f2 k xr).length:=by rw[zO];omega
  have ahZ:(jH f2 k xr).length=xr.length:=zO _ _ _;have e0:jH f2 k xr=(jH f2 k xr).set k (r,v3,v4):=by
   apply iF;intro i;rw[mV];by_cases hi:k=i
   ·subst hi;rw[if_pos rfl,if_pos mI,hget]
   ·rw[if_neg hi]
  refine fO (ah ji v3 r.names) (λw h=>h (r9 bT xr) (bR ..) _ hpm _ (bR ..)) ?_;refine fO (ah ji v4 r.others) (λw h=>h (r9 bT xr) (bU _ (bR ..)) _ hpm _ (bU _ (bR ..))) ?_;rw[e0];rw[<- e0];generalize hX:jH f2 k xr=X at mI ahZ e0 hfin;rw[e0];refine go ?_;refine mD (o:=0+k*12+3) (cs:=dD bT (X.set k (r,v3,v4))) (cs':=dD bT (X.set k ({r with family:=0},v3,v4))) (v:=.int .i64 0) (DT mI rfl (by omega)) (DU mI (by omega)) ?_;refine go ?_;refine mD (o:=0+k*12+11) (cs:=dD bT (X.set k ({r with family:=0},v3,v4))) (cs':=dD bT (X.set k ({r with family:=0,aN:= -1},v3,v4))) (v:=.int .i64 (-1)) (DT mI rfl (by omega)) (DU mI (by omega)) ?_;refine go ?_;refine pF (o:=0+k*12+1) (cs:=dD bT (X.set k ({r with family:=0,aN:= -1},v3,v4))) (.string r.on) (BA mI rfl) ?_;refine go ?_;refine UL (aT:=[pt b1 (.cells [.string d.name,.int .i64 d.version,.int .i64 d.shape,.int .i64 d.w,.int .i64 d.h,vh,vs,vr,.slice a1 xc.length xc.length,.slice (some ⟨iZ,0,some fy⟩) xr.length xr.length]),ar dX (.slice a1 xc.length xc.length) (xc.map f1),pt b3 (.cells [.int .i64 0]),pt b2 (.cells wN)]) [] (λ_:Unit=>[]) (λ_=>[pt iZ (.cells (dD bT (X.set k ({r with family:=if r.on=⟨⟨[]⟩⟩then 0 else(jB r.on (gM d):Int),aN:= -1},v3,v4))))]) (λ_=>[]) (λ_=>r.on=⟨⟨[]⟩⟩\/r.on∈gM d) (hx:=?_) (hy:=?_)
  ·refine pz (p:=r.on=⟨⟨[]⟩⟩) (by show Value.bool _=_;rw[rq]) (λh3=>?_) (λh3=>?_)
   ·refine go ?_;refine pF (o:=0+k*12+1) (cs:=dD bT (X.set k ({r with family:=0,aN:= -1},v3,v4))) (.string r.on) (BA mI rfl) ?_;refine ql (KH (b:=bf) (s:=r.on) (ax:=fD (gM d) 0)) (λy v hy e=>?_) (λy ch hy e=>?_)
    rotate_left
    ·have hm:r.on∉gM d:=by
      intro h;rw[xZ h]at hy;subst hy;cases e
     rw[sj (by rw[um];exact hm)]at hy;subst hy;injection e with e;subst e;refine go ?_;refine aeK ?_;refine go ?_;exact yA (e:=160) (.inl rfl) (λh=>(h.oO r kQ).on.elim h3 hm) rfl rfl (by repeat (first|exact aO.nil|(apply aO.cons;(focus (repeat (first|exact az.here|apply az.there))))))
    have hm:r.on∈gM d:=by
     by_cases h:r.on∈gM d
     ·exact h
     ·rw[sj (by rw[um];exact h)]at hy;subst hy;cases e
    rw[xZ hm]at hy;subst hy;injection e with e;subst e;rw[fw];refine go ?_;refine mD (o:=0+k*12+3) (cs:=dD bT (X.set k ({r with family:=0,aN:= -1},v3,v4))) (cs':=dD bT (X.set k ({r with family:=if r.on=⟨⟨[]⟩⟩then 0 else(jB r.on (gM d):Int),aN:= -1},v3,v4))) (v:=.int .i64 ((jB r.on (gM d):Nat):Int)) (by rw[if_neg h3];exact DT mI rfl (by omega)) (DU mI (by omega)) ?_;refine go ?_;exact Ju () (.inr hm)
   ·refine go ?_;rw[show({r with family:=0,aN:= -1}:bV)={r with family:=if r.on=⟨⟨[]⟩⟩then 0 else(jB r.on (gM d):Int),aN:= -1}by rw[if_pos h3]];exact Ju () (.inl h3)
  intro _ hon;generalize hfm:(if r.on=⟨⟨[]⟩⟩then 0 else(jB r.on (gM d):Int))=fm;refine go ?_;refine pF (o:=0+k*12+4) (cs:=dD bT (X.set k ({r with family:=fm,aN:= -1},v3,v4))) v3 (BA mI rfl) ?_;refine go ?_;refine pF (o:=0+k*12+5) (cs:=dD bT (X.set k ({r with family:=fm,aN:= -1},v3,v4))) v4 (BA mI rfl) ?_;refine go ?_;refine ql (XB (b4:=b4) (bs:=bs) (vl:=v3) (eY:=gY d) (l:=r.names) hsy hrs.1) (λy v hy e=>?_) (λy ch hy e=>?_)
   (hs:=λy v _ _=>C8 (b:=iZ) (o:=0+k*12+5) (cs:=dD bT (X.set k ({r with family:=fm,aN:= -1},v3,v4))) (v:=v4) rfl (by repeat (first|exact az.here|apply az.there)) (by rw[qK];exact BA mI rfl) rfl CZ)
  rotate_left
  ·cases y with
   |true=>cases e
   |false=>
    injection e with e;subst e;refine go ?_;exact yA (e:=160) (.inl rfl) (λh=>hy.2 rfl (h.oO r kQ).names) rfl rfl (by repeat (first|exact aO.nil|(apply aO.cons;(focus (repeat (first|exact az.here|apply az.there))))))
  cases y with
  |false=>cases e
  |true=>
  injection e with e;subst e;have ah0:=hy.1 rfl;clear hy;refine go ?_;refine go ?_;refine ql (XB (b4:=b4) (bs:=bs) (vl:=v4) (eY:=gY d) (l:=r.others) hsy hrs.2) (λy v hy e=>?_) (λy ch hy e=>?_)
  rotate_left
  ·cases y with
   |true=>cases e
   |false=>
    injection e with e;subst e;refine go ?_;exact yA (e:=160) (.inl rfl) (λh=>hy.2 rfl (h.oO r kQ).others) rfl rfl (by repeat (first|exact aO.nil|(apply aO.cons;(focus (repeat (first|exact az.here|apply az.there))))))
  cases y with
  |false=>cases e
  |true=>
  injection e with e;subst e;have ah1:=hy.1 rfl;clear hy;refine go ?_;refine mD (o:=0+k*12+6) (cs:=dD bT (X.set k ({r with family:=fm,aN:= -1},v3,v4))) (cs':=dD bT (X.set k ({r with family:=fm,aN:= -1,set:=(jX (gY d) r.names:Int)},v3,v4))) (v:=.int .i64 (jX (gY d) r.names:Int)) (DT mI rfl (by omega)) (DU mI (by omega)) ?_;refine go ?_;refine mD (o:=0+k*12+7) (cs:=dD bT (X.set k ({r with family:=fm,aN:= -1,set:=(jX (gY d) r.names:Int)},v3,v4))) (cs':=dD bT (X.set k ({r with family:=fm,aN:= -1,set:=(jX (gY d) r.names:Int),other:=(jX (gY d) r.others:Int)},v3,v4))) (v:=.int .i64 (jX (gY d) r.others:Int)) (DT mI rfl (by omega)) (DU mI (by omega)) ?_;refine go ?_;refine pF (o:=0+k*12+10) (cs:=dD bT (X.set k ({r with family:=fm,aN:= -1,set:=(jX (gY d) r.names:Int),other:=(jX (gY d) r.others:Int)},v3,v4))) (.string r.iZ) (BA mI rfl) ?_;refine go ?_;have hnext:(r.iZ=⟨⟨[]⟩⟩\/r.iZ∈kX d)->∀q∈xr.take (k+1),OJ (gY d) (gM d) (kX d) q.1:=by
   intro hby q hq;rw[pg,hp]at hq;rcases gH.1 hq with h|h
   ·exact hall q h
   ·have:q=(r,v3,v4):=bO.1 (show q∈[(r,v3,v4)]from h);rw[this];exact⟨hon,ah0,ah1,hby⟩
  refine pz (p:=r.iZ=⟨⟨[]⟩⟩) (by show Value.bool _=_;rw[rq]) (λh3=>?_) (λh3=>?_)
  ·refine go ?_;refine pF (o:=0+k*12+10) (cs:=dD bT (X.set k ({r with family:=fm,aN:= -1,set:=(jX (gY d) r.names:Int),other:=(jX (gY d) r.others:Int)},v3,v4))) (.string r.iZ) (BA mI rfl) ?_;refine ql (KH (b:=bc) (s:=r.iZ) (ax:=fD (kX d) 0)) (λy v hy e=>?_) (λy ch hy e=>?_)
   rotate_left
   ·have hm:r.iZ∉kX d:=by
     intro h;rw[xZ h]at hy;subst hy;cases e
    rw[sj (by rw[um];exact hm)]at hy;subst hy;injection e with e;subst e;refine go ?_;exact yA (e:=160) (.inl rfl) (λh=>(h.oO r kQ).iZ.elim h3 hm) rfl rfl (by repeat (first|exact aO.nil|(apply aO.cons;(focus (repeat (first|exact az.here|apply az.there))))))
   have hm:r.iZ∈kX d:=by
    by_cases h:r.iZ∈kX d
    ·exact h
    ·rw[sj (by rw[um];exact h)]at hy;subst hy;cases e
   rw[xZ hm]at hy;subst hy;injection e with e;subst e;rw[fw];refine go ?_;refine mD (o:=0+k*12+11) (cs:=dD bT (X.set k ({r with family:=fm,aN:= -1,set:=(jX (gY d) r.names:Int),other:=(jX (gY d) r.others:Int)},v3,v4))) (cs':=dD bT (X.set k (f2 (r,v3,v4)))) (v:=.int .i64 ((jB r.iZ (kX d):Nat):Int)) (DT mI (by show _=jG (vB (gY d) (gM d) (kX d) r) v3 v4;unfold vB;rw[if_neg h3,hfm];rfl) (by omega)) (DU mI (by omega)) ?_;refine go ?_;rw[hfin];refine ug (b:=iZ) (f:=fy) (m:=xr.length) bT (ay:=jH f2 (k+1) xr) (by rw[zO]) XE ?_;exact bi (k+1) (by omega) ⟨by omega,hnext (.inr hm)⟩
  ·refine go ?_;rw[show X.set k (({r with family:=fm,aN:= -1,set:=(jX (gY d) r.names:Int),other:=(jX (gY d) r.others:Int)}:bV),v3,v4)=jH f2 (k+1) xr by
    rw[<- hfin];congr 1;show _=(vB (gY d) (gM d) (kX d) r,v3,v4)
    unfold vB;rw[if_pos h3,hfm];rfl]
   refine ug (b:=iZ) (f:=fy) (m:=xr.length) bT (ay:=jH f2 (k+1) xr) (by rw[zO]) XE ?_;exact bi (k+1) (by omega) ⟨by omega,hnext (.inl h3)⟩
 have hkl:k=xr.length:=by omega
 subst hkl;rw[eH]at hall;rw[VW];refine JF (E:=dX) (v:=.slice a1 xc.length xc.length) (ay:=xc.map f1) ?_ (λw h p hp f hf=>by cases hf);refine JF (E:=bT) (v:=.slice a2 xr.length xr.length) (ay:=xr.map f2) ?_ (λw h p hp f hf=>by
  obtain⟨q,hq,rfl⟩:=cZ.1 hp;exact h (r9 bT xr) (bU _ (bU _ (bR ..))) q hq f hf)
 refine go ?_;refine XC (e:=0) ⟨true,0,.slice a1 xc.length xc.length,.slice a2 xr.length xr.length⟩ rfl (by rfl) rfl rfl ⟨λ_=>⟨rfl,⟨by omega,hsn,hfn,hcn,hcon,hrn,λr hr=>?_⟩⟩,λh=>by cases h⟩ (λw h f hf=>?_) rfl rfl (by repeat (first|exact aO.nil|(apply aO.cons;(focus (repeat (first|exact az.here|apply az.there))))))
 ·rw[<- nY]at hr;obtain⟨p,hp,rfl⟩:=cZ.1 hr;exact hall p hp
 ·have ec:(xc.map f1).map (·.1)=(Kd.dV d).bI:=by
   show _=d.bI.map (Dt (gM d));rw[<- DV,qE,qE];rfl
  have er:(xr.map f2).map (·.1)=(Kd.dV d).rules:=by
   show _=d.rules.map (vB (gY d) (gM d) (kX d));rw[<- nY,qE,qE];rfl
  rw[ec,er]at h;have hf:f∈[ah dX (.slice a1 xc.length xc.length) (Kd.dV d).bI,ah bT (.slice a2 xr.length xr.length) (Kd.dV d).rules]:=hf;rcases bN.1 hf with rfl|hf
  ·exact h _ (by simp)
  ·rw[bO.1 hf];exact h _ (by simp)
end Go.Proofs.YtfakljdleblkoaaGreat
namespace Go.Proofs.YtfakljdleblkoaaGreat
open Go.Ideal Kd
theorem XF{va vb:Value}{xs ys:List (List Int)}(hal:xs.length<9223372036854775808)(hl:∀l∈xs,l.length<9223372036854775808):eG Tryz.prog 179 [va,vb,.func (.func 73) #[] #[]] [ah (aB ae) va xs,ah (aB ae) vb ys] (.bool (decide (xs=ys))):=by
 refine aK _ (aM 179) λB w0=>?_;refine go ?_;refine aJ rfl (λh1=>?_) (λh1=>?_)
 ·refine go ?_;refine aj () (hv:=?_) (hp:=trivial);rw[dM (λe=>h1 (by rw[e]))];rfl
 have hlen:xs.length=ys.length:=by omega
 refine go ?_;refine bQ (λk=>xs.length - k) (λk:Nat=>[(17,.int .i64 (k:Int))]) (λ_=>[]) (λ_=>[]) (λk=>k<=xs.length/\∀j,j<k->xs[j]? =ys[j]?) 0 ⟨by omega,λj hj=>by omega⟩ (body:=?_);rintro k ⟨hkx,hsame⟩;refine go ?_;refine aJ rfl (λh2=>?_) (λh2=>?_)
 ·refine go ?_;refine bZ (aB ae) (next:=λ_ _ x (vx:Value) hx=>?_);refine go ?_;refine bZ (aB ae) (next:=λ_ _ y (vy:Value) hy=>?_);refine go ?_;refine ak (sF (xs:=x) (ys:=y) (hl x (aR hx))) (next:=λ_ _=>?_);refine go ?_;refine pz rfl (λh3=>?_) (λh3=>?_)
  ·refine go ?_;refine aj () (hv:=?_) (hp:=trivial);rw[dM (λe=>h3 (by rw[e,hy]at hx;cases hx;rfl))];rfl
  refine go ?_;refine bi (k+1) (by omega) ⟨by omega,λj hj=>?_⟩;by_cases e:j=k
  ·subst e;rw[hx,hy,h3]
  ·exact hsame j (by omega)
 refine go ?_;refine aj () (hv:=?_) (hp:=trivial);have:xs=ys:=by
  apply iF;intro j;by_cases hj:j<k
  ·exact hsame j hj
  ·rw[fu (by omega),fu (by omega)]
 rw[fQ this];rfl
theorem XG{va vb:Value}{xs ys:List (List Int)}(hal:xs.length<9223372036854775808)(hl:∀l∈xs,l.length<9223372036854775808):eG Tryz.prog 129 [va,vb] [ah (aB ae) va xs,ah (aB ae) vb ys] (.bool (decide (xs=ys))):=by
 refine aK _ (aM 129) λB w0=>?_;refine go ?_;refine ak (XF (xs:=xs) (ys:=ys) hal hl) (next:=λ_ _=>?_);refine go ?_;exact aj () (hv:=rfl) (hp:=trivial)
theorem ah2{va vb:Value}{xs ys:List (List (List Int))}(hal:xs.length<9223372036854775808)(hl:∀l∈xs,l.length<9223372036854775808/\∀m∈l,m.length<9223372036854775808):eG Tryz.prog 130 [va,vb,.func (.func 129) #[] #[]] [ah (aB (aB ae)) va xs,ah (aB (aB ae)) vb ys] (.bool (decide (xs=ys))):=by
 refine aK _ (aM 130) λB w0=>?_;refine go ?_;refine aJ rfl (λh1=>?_) (λh1=>?_)
 ·refine go ?_;refine aj () (hv:=?_) (hp:=trivial);rw[dM (λe=>h1 (by rw[e]))];rfl
 have hlen:xs.length=ys.length:=by omega
 refine go ?_;refine bQ (λk=>xs.length - k) (λk:Nat=>[(17,.int .i64 (k:Int))]) (λ_=>[]) (λ_=>[]) (λk=>k<=xs.length/\∀j,j<k->xs[j]? =ys[j]?) 0 ⟨by omega,λj hj=>by omega⟩ (body:=?_);rintro k ⟨hkx,hsame⟩;refine go ?_;refine aJ rfl (λh2=>?_) (λh2=>?_)
 ·refine go ?_;refine bZ (aB (aB ae)) (next:=λ_ _ x (vx:Value) hx=>?_);refine go ?_;refine bZ (aB (aB ae)) (next:=λ_ _ y (vy:Value) hy=>?_);refine go ?_;refine ak (XG (xs:=x) (ys:=y) (hl x (aR hx)).1 (hl x (aR hx)).2) (next:=λ_ _=>?_);refine go ?_;refine pz rfl (λh3=>?_) (λh3=>?_)
  ·refine go ?_;refine aj () (hv:=?_) (hp:=trivial);rw[dM (λe=>h3 (by rw[e,hy]at hx;cases hx;rfl))];rfl
  refine go ?_;refine bi (k+1) (by omega) ⟨by omega,λj hj=>?_⟩;by_cases e:j=k
  ·subst e;rw[hx,hy,h3]
  ·exact hsame j (by omega)
 refine go ?_;refine aj () (hv:=?_) (hp:=trivial);have:xs=ys:=by
  apply iF;intro j;by_cases hj:j<k
  ·exact hsame j hj
  ·rw[fu (by omega),fu (by omega)]
 rw[fQ this];rfl
theorem XH{va vb:Value}{xs ys:List ByteArray}(hal:xs.length<9223372036854775808):eG Tryz.prog 181 [va,vb] [ah ji va xs,ah ji vb ys] (.bool (decide (xs=ys))):=by
 refine aK _ (aM 181) λB w0=>?_;refine go ?_;refine aJ rfl (λh1=>?_) (λh1=>?_)
 ·refine go ?_;refine aj () (hv:=?_) (hp:=trivial);rw[dM (λe=>h1 (by rw[e]))];rfl
 have hlen:xs.length=ys.length:=by omega
 refine go ?_;refine bQ (λk=>xs.length - k) (λk:Nat=>[(13,.int .i64 (k:Int))]) (λ_=>[]) (λ_=>[]) (λk=>k<=xs.length/\∀j,j<k->xs[j]? =ys[j]?) 0 ⟨by omega,λj hj=>by omega⟩ (body:=?_);rintro k ⟨hkx,hsame⟩;refine go ?_;refine aJ rfl (λh2=>?_) (λh2=>?_)
 ·refine go ?_;refine bZ ji (next:=λ_ _ x (_:Unit) hx=>?_);refine go ?_;refine bZ ji (next:=λ_ _ y (_:Unit) hy=>?_);refine go ?_;refine pz (p:=x=y) (by show Value.bool _=_;rw[rq]) (λh3=>?_) (λh3=>?_)
  ·refine go ?_;refine aj () (hv:=?_) (hp:=trivial);rw[dM (λe=>h3 (by rw[e,hy]at hx;cases hx;rfl))];rfl
  refine go ?_;refine bi (k+1) (by omega) ⟨by omega,λj hj=>?_⟩;by_cases e:j=k
  ·subst e;rw[hx,hy,h3]
  ·exact hsame j (by omega)
 refine go ?_;refine aj () (hv:=?_) (hp:=trivial);have:xs=ys:=by
  apply iF;intro j;by_cases hj:j<k
  ·exact hsame j hj
  ·rw[fu (by omega),fu (by omega)]
 rw[fQ this];rfl
theorem ah3(x y:lG):cellsE [.string x.name,.int .i64 x.value] [.string y.name,.int .i64 y.value]=decide (x=y):=by
 obtain⟨a,b⟩:=x;obtain⟨c,e⟩:=y;show(decide (a=c)&&(decide (b=e)&&true))=_;rw[Bool.and_true,<- Bool.decide_and];exact nK.2 ⟨λh=>by rw[h.1,h.2],λh=>by cases h;exact⟨rfl,rfl⟩⟩
abbrev KJ(x:iI):List Value:=[.string x.name,.string x.on,.int .i64 x.family,.int .i64 x.type,.int .i64 x.lo,.int .i64 x.hi]
theorem ah4(x y:iI):cellsE (KJ x) (KJ y)=decide (x=y):=by
 obtain⟨a1,a2,a3,a4,a5,a6⟩:=x;obtain⟨b1,b2,b3,b4,b5,b6⟩:=y;show(decide (a1=b1)&&(decide (a2=b2)&&(decide (a3=b3)&&(decide (a4=b4)&&(decide (a5=b5)&&(decide (a6=b6)&&true))))))=_;rw[Bool.and_true];simp only[<- Bool.decide_and];exact nK.2 ⟨λh=>by rw[h.1,h.2.1,h.2.2.1,h.2.2.2.1,h.2.2.2.2.1,h.2.2.2.2.2],λh=>by cases h;exact⟨rfl,rfl,rfl,rfl,rfl,rfl⟩⟩
theorem ah5:∃fs:Array Field,Tryz.prog.underlying 98=some (.struct fs)/\FV Tryz.prog fs.toList 0 [false,true]=true:=by
 refine⟨Tryz.prog.fieldsOf 98,by kernel_rfl,by kernel_rfl⟩
theorem ah6:∃fs:Array Field,Tryz.prog.underlying 62=some (.struct fs)/\FV Tryz.prog fs.toList 0 [false,false,true,true,true,true]=true:=by
 refine⟨Tryz.prog.fieldsOf 62,by kernel_rfl,by kernel_rfl⟩
theorem ah7{va vb:Value}{xs ys:List lG}(hal:xs.length<9223372036854775808):eG Tryz.prog 182 [va,vb] [ah jF va xs,ah jF vb ys] (.bool (decide (xs=ys))):=by
 obtain⟨fs,hu,hrow⟩:=ah5;refine aK _ (aM 182) λB w0=>?_;refine go ?_;refine aJ rfl (λh1=>?_) (λh1=>?_)
 ·refine go ?_;refine aj () (hv:=?_) (hp:=trivial);rw[dM (λe=>h1 (by rw[e]))];rfl
 have hlen:xs.length=ys.length:=by omega
 refine go ?_;refine bQ (λk=>xs.length - k) (λk:Nat=>[(13,.int .i64 (k:Int))]) (λ_=>[]) (λ_=>[]) (λk=>k<=xs.length/\∀j,j<k->xs[j]? =ys[j]?) 0 ⟨by omega,λj hj=>by omega⟩ (body:=?_);rintro k ⟨hkx,hsame⟩;refine go ?_;refine aJ rfl (λh2=>?_) (λh2=>?_)
 ·refine go ?_;refine bZ jF (next:=λ_ _ x (_:Unit) hx=>?_);refine go ?_;refine bZ jF (next:=λ_ _ y (_:Unit) hy=>?_);refine go ?_;refine(fF (v:=.bool (!decide (x=y))) rfl rfl (by rw[<- ah3];exact Vg rfl rfl hu (by kernel_rfl) (by kernel_rfl) (row_of hrow rfl rfl (λj=>by rw[fw]) (λj=>by rw[fw])) (by simp[gX,dF,Ideal.cellV]) (by simp[gX,dF,Ideal.cellV]))).h ?_;refine go ?_;refine pz rfl (λh3=>?_) (λh3=>?_)
  ·refine go ?_;refine aj () (hv:=?_) (hp:=trivial);rw[dM (λe=>h3 (by rw[e,hy]at hx;cases hx;rfl))];rfl
  refine go ?_;refine bi (k+1) (by omega) ⟨by omega,λj hj=>?_⟩;by_cases e:j=k
  ·subst e;rw[hx,hy,h3]
  ·exact hsame j (by omega)
 refine go ?_;refine aj () (hv:=?_) (hp:=trivial);have:xs=ys:=by
  apply iF;intro j;by_cases hj:j<k
  ·exact hsame j hj
  ·rw[fu (by omega),fu (by omega)]
 rw[fQ this];rfl
theorem ah8{va vb:Value}{xs ys:List iI}(hal:xs.length<9223372036854775808):eG Tryz.prog 184 [va,vb] [ah dX va xs,ah dX vb ys] (.bool (decide (xs=ys))):=by
 obtain⟨fs,hu,hrow⟩:=ah6;refine aK _ (aM 184) λB w0=>?_;refine go ?_;refine aJ rfl (λh1=>?_) (λh1=>?_)
 ·refine go ?_;refine aj () (hv:=?_) (hp:=trivial);rw[dM (λe=>h1 (by rw[e]))];rfl
 have hlen:xs.length=ys.length:=by omega
 refine go ?_;refine bQ (λk=>xs.length - k) (λk:Nat=>[(13,.int .i64 (k:Int))]) (λ_=>[]) (λ_=>[]) (λk=>k<=xs.length/\∀j,j<k->xs[j]? =ys[j]?) 0 ⟨by omega,λj hj=>by omega⟩ (body:=?_);rintro k ⟨hkx,hsame⟩;refine go ?_;refine aJ rfl (λh2=>?_) (λh2=>?_)
 ·refine go ?_;refine bZ dX (next:=λ_ _ x (_:Unit) hx=>?_);refine go ?_;refine bZ dX (next:=λ_ _ y (_:Unit) hy=>?_);refine go ?_;refine(fF (v:=.bool (!decide (x=y))) rfl rfl (by rw[<- ah4];exact Vg rfl rfl hu (by kernel_rfl) (by kernel_rfl) (row_of hrow rfl rfl (λj=>by rw[fw]) (λj=>by rw[fw])) (by simp[gX,dF,Ideal.cellV]) (by simp[gX,dF,Ideal.cellV]))).h ?_;refine go ?_;refine pz rfl (λh3=>?_) (λh3=>?_)
  ·refine go ?_;refine aj () (hv:=?_) (hp:=trivial);rw[dM (λe=>h3 (by rw[e,hy]at hx;cases hx;rfl))];rfl
  refine go ?_;refine bi (k+1) (by omega) ⟨by omega,λj hj=>?_⟩;by_cases e:j=k
  ·subst e;rw[hx,hy,h3]
  ·exact hsame j (by omega)
 refine go ?_;refine aj () (hv:=?_) (hp:=trivial);have:xs=ys:=by
  apply iF;intro j;by_cases hj:j<k
  ·exact hsame j hj
  ·rw[fu (by omega),fu (by omega)]
 rw[fQ this];rfl
end Go.Proofs.YtfakljdleblkoaaGreat
namespace Go.Proofs.YtfakljdleblkoaaGreat
open Go.Ideal Kd
theorem ah9{x y:oN}{vx vy:Value}(hl:x.lists.length<9223372036854775808)(hll:∀l∈x.lists,l.length<9223372036854775808):eG Tryz.prog 178 [.agg ⟨[.string x.name,vx]⟩,.agg ⟨[.string y.name,vy]⟩] [ah (aB ae) vx x.lists,ah (aB ae) vy y.lists] (.bool (decide (x=y))):=by
 obtain⟨n1,l1⟩:=x;obtain⟨n2,l2⟩:=y;dsimp only at hl hll⊢;refine aK _ (aM 178) λB w0=>?_;refine go ?_;intro b2 b3;refine go ?_;refine gG (λh1=>?_) (λh1=>?_)
 ·rw[rq]at h1;refine go ?_;refine aj () (hv:=?_) (hp:=trivial);rw[dM (λe=>uI h1 (by cases e;rfl))];rfl
 rw[rq]at h1;have h1:=jg h1;refine go ?_;refine ak (XF (xs:=l1) (ys:=l2) hl hll) (next:=λ_ _=>?_);refine go ?_;refine aj () (hv:=?_) (hp:=trivial);rw[show decide (oN.mk n1 l1=oN.mk n2 l2)=decide (l1=l2)from nK.2 ⟨λh=>by cases h;rfl,λh=>by rw[h1,h]⟩];rfl
theorem aia{x y:bV}{v1 v2 u1 u2:Value}(hl:x.names.length<9223372036854775808)(hll:x.others.length<9223372036854775808):eG Tryz.prog 180 [.agg ⟨jG x v1 v2⟩,.agg ⟨jG y u1 u2⟩] [ah ji v1 x.names,ah ji v2 x.others,ah ji u1 y.names,ah ji u2 y.others] (.bool (decide (x=y))):=by
 obtain⟨n1,o1,k1,f1,XI,os1,s1,t1,p1,m1,y1,c1⟩:=x;obtain⟨n2,o2,k2,f2,XJ,os2,s2,t2,p2,m2,y2,c2⟩:=y;dsimp only[jG]at hl hll⊢;refine aK _ (aM 180) λB w0=>?_;refine go ?_;intro b2 b3;refine go ?_;refine ak (XH (xs:=XI) (ys:=XJ) hl) (next:=λ_ _=>?_);refine go ?_;refine gG (λh1=>?_) (λh1=>?_)
 ·refine go ?_;refine aj () (hv:=?_) (hp:=trivial);rw[dM (λe=>h1 (by cases e;rfl))];rfl
 refine go ?_;refine ak (XH (xs:=os1) (ys:=os2) hll) (next:=λ_ _=>?_);refine go ?_;refine gG (λh2=>?_) (λh2=>?_)
 ·refine go ?_;refine aj () (hv:=?_) (hp:=trivial);rw[dM (λe=>h2 (by cases e;rfl))];rfl
 refine go ?_;refine gG (λh3=>?_) (λh3=>?_)
 ·rw[rq]at h3;refine go ?_;refine aj () (hv:=?_) (hp:=trivial);rw[dM (λe=>uI h3 (by cases e;rfl))];rfl
 rw[rq]at h3;have h3:=jg h3;refine go ?_;refine gG (λh4=>?_) (λh4=>?_)
 ·rw[rq]at h4;refine go ?_;refine aj () (hv:=?_) (hp:=trivial);rw[dM (λe=>uI h4 (by cases e;rfl))];rfl
 rw[rq]at h4;have h4:=jg h4;refine go ?_;refine gG (λh5=>?_) (λh5=>?_)
 ·rw[rq]at h5;refine go ?_;refine aj () (hv:=?_) (hp:=trivial);rw[dM (λe=>uI h5 (by cases e;rfl))];rfl
 rw[rq]at h5;have h5:=jg h5;refine go ?_;refine(fF (v:=.bool (decide ([k1,f1,s1,t1,p1,m1,c1]=[k2,f2,s2,t2,p2,m2,c2]))) rfl rfl (ae8 (n:=7) (e:=3) rfl rfl (by kernel_rfl) (by kernel_rfl) (by kernel_rfl) rfl rfl (by kernel_rfl))).h ?_;refine go ?_;refine aj () (hv:=?_) (hp:=trivial);rw[show decide (bV.mk n1 o1 k1 f1 XI os1 s1 t1 p1 m1 y1 c1=bV.mk n2 o2 k2 f2 XJ os2 s2 t2 p2 m2 y2 c2)=decide ([k1,f1,s1,t1,p1,m1,c1]=[k2,f2,s2,t2,p2,m2,c2])from nK.2 ⟨λh=>by cases h;rfl,λh=>by cases h;rw[h1,h2,h3,h4,h5]⟩];rfl
theorem aib{va vb:Value}{xs ys:List oN}(hal:xs.length<9223372036854775808)(hl:∀r∈xs,r.lists.length<9223372036854775808/\∀l∈r.lists,l.length<9223372036854775808):eG Tryz.prog 183 [va,vb,.func (.func 178) #[] #[]] [ah kW va xs,ah kW vb ys] (.bool (decide (xs=ys))):=by
 refine aK _ (aM 183) λB w0=>?_;refine go ?_;refine aJ rfl (λh1=>?_) (λh1=>?_)
 ·refine go ?_;refine aj () (hv:=?_) (hp:=trivial);rw[dM (λe=>h1 (by rw[e]))];rfl
 have hlen:xs.length=ys.length:=by omega
 refine go ?_;refine bQ (λk=>xs.length - k) (λk:Nat=>[(17,.int .i64 (k:Int))]) (λ_=>[]) (λ_=>[]) (λk=>k<=xs.length/\∀j,j<k->xs[j]? =ys[j]?) 0 ⟨by omega,λj hj=>by omega⟩ (body:=?_);rintro k ⟨hkx,hsame⟩;refine go ?_;refine aJ rfl (λh2=>?_) (λh2=>?_)
 ·refine go ?_;refine bZ kW (next:=λ_ _ x (vx:Value) hx=>?_);refine go ?_;intro b8;refine go ?_;refine bZ kW (next:=λ_ _ y (vy:Value) hy=>?_);refine go ?_;intro b9;refine go ?_;refine ak (ah9 (x:=x) (y:=y) (vx:=vx) (vy:=vy) (hl x (aR hx)).1 (hl x (aR hx)).2) (next:=λ_ _=>?_);refine go ?_;refine pz rfl (λh3=>?_) (λh3=>?_)
  ·refine go ?_;refine aj () (hv:=?_) (hp:=trivial);rw[dM (λe=>h3 (by rw[e,hy]at hx;cases hx;rfl))];rfl
  refine go ?_;refine bi (k+1) (by omega) ⟨by omega,λj hj=>?_⟩;by_cases e:j=k
  ·subst e;rw[hx,hy,h3]
  ·exact hsame j (by omega)
 refine go ?_;refine aj () (hv:=?_) (hp:=trivial);have:xs=ys:=by
  apply iF;intro j;by_cases hj:j<k
  ·exact hsame j hj
  ·rw[fu (by omega),fu (by omega)]
 rw[fQ this];rfl
theorem aic{va vb:Value}{xs ys:List bV}(hal:xs.length<9223372036854775808)(hl:∀r∈xs,r.names.length<9223372036854775808/\r.others.length<9223372036854775808):eG Tryz.prog 185 [va,vb,.func (.func 180) #[] #[]] [ah bT va xs,ah bT vb ys] (.bool (decide (xs=ys))):=by
 refine aK _ (aM 185) λB w0=>?_;refine go ?_;refine aJ rfl (λh1=>?_) (λh1=>?_)
 ·refine go ?_;refine aj () (hv:=?_) (hp:=trivial);rw[dM (λe=>h1 (by rw[e]))];rfl
 have hlen:xs.length=ys.length:=by omega
 refine go ?_;refine bQ (λk=>xs.length - k) (λk:Nat=>[(17,.int .i64 (k:Int))]) (λ_=>[]) (λ_=>[]) (λk=>k<=xs.length/\∀j,j<k->xs[j]? =ys[j]?) 0 ⟨by omega,λj hj=>by omega⟩ (body:=?_);rintro k ⟨hkx,hsame⟩;refine go ?_;refine aJ rfl (λh2=>?_) (λh2=>?_)
 ·refine go ?_;refine bZ bT (next:=λ_ _ x (vx:Value×Value) hx=>?_);refine go ?_;intro b8;refine go ?_;refine bZ bT (next:=λ_ _ y (vy:Value×Value) hy=>?_);refine go ?_;intro b9;refine go ?_;refine ak (aia (x:=x) (y:=y) (v1:=vx.1) (v2:=vx.2) (u1:=vy.1) (u2:=vy.2) (hl x (aR hx)).1 (hl x (aR hx)).2) (next:=λ_ _=>?_);refine go ?_;refine pz rfl (λh3=>?_) (λh3=>?_)
  ·refine go ?_;refine aj () (hv:=?_) (hp:=trivial);rw[dM (λe=>h3 (by rw[e,hy]at hx;cases hx;rfl))];rfl
  refine go ?_;refine bi (k+1) (by omega) ⟨by omega,λj hj=>?_⟩;by_cases e:j=k
  ·subst e;rw[hx,hy,h3]
  ·exact hsame j (by omega)
 refine go ?_;refine aj () (hv:=?_) (hp:=trivial);have:xs=ys:=by
  apply iF;intro j;by_cases hj:j<k
  ·exact hsame j hj
  ·rw[fu (by omega),fu (by omega)]
 rw[fQ this];rfl
theorem XK{x y:dN}{h1 s1 r1 c1 u1 h2 s2 r2 c2 u2:Value}(hS:ru x):eG Tryz.prog 128 [.agg ⟨mP x h1 s1 r1 c1 u1⟩,.agg ⟨mP y h2 s2 r2 c2 u2⟩] (ul x h1 s1 r1 c1 u1++ul y h2 s2 r2 c2 u2) (.bool (decide (x=y))):=by
 have e1:=hS.eY;have e2:=hS.regs;have e3:=hS.mE;have e4:=hS.nX;have e5:=hS.DN;have e6:=hS.holes;have e7:=hS.DR;clear hS;obtain⟨n1,v1,p1,w1,g1,ho1,XL,XM,XN,PM⟩:=x;obtain⟨n2,v2,p2,w2,g2,ho2,XO,XP,XQ,PN⟩:=y;dsimp only at e1 e2 e3 e4 e5 e6 e7;dsimp only[mP,ul,List.cons_append,List.nil_append];refine aK _ (aM 128) λB w0=>?_;refine go ?_;intro b2 b3;refine go ?_;refine gG (λk1=>?_) (λk1=>?_)
 ·rw[rq]at k1;refine go ?_;refine aj () (hv:=?_) (hp:=trivial);rw[dM (λe=>uI k1 (by cases e;rfl))];rfl
 rw[rq]at k1;have k1:=jg k1;refine go ?_;refine gG (λk2=>?_) (λk2=>?_)
 ·refine go ?_;refine aj () (hv:=?_) (hp:=trivial);rw[dM (λe=>k2 (by cases e;rfl))];rfl
 refine go ?_;refine gG (λk3=>?_) (λk3=>?_)
 ·refine go ?_;refine aj () (hv:=?_) (hp:=trivial);rw[dM (λe=>k3 (by cases e;rfl))];rfl
 refine go ?_;refine gG (λk4=>?_) (λk4=>?_)
 ·refine go ?_;refine aj () (hv:=?_) (hp:=trivial);rw[dM (λe=>k4 (by cases e;rfl))];rfl
 refine go ?_;refine gG (λk5=>?_) (λk5=>?_)
 ·refine go ?_;refine aj () (hv:=?_) (hp:=trivial);rw[dM (λe=>k5 (by cases e;rfl))];rfl
 refine go ?_;refine ak (sF (xs:=ho1) (ys:=ho2) e6) (next:=λ_ _=>?_);refine go ?_;refine gG (λk6=>?_) (λk6=>?_)
 ·refine go ?_;refine aj () (hv:=?_) (hp:=trivial);rw[dM (λe=>k6 (by cases e;rfl))];rfl
 refine go ?_;refine ak (ah7 (xs:=XL) (ys:=XO) (by omega)) (next:=λ_ _=>?_);refine go ?_;refine gG (λk7=>?_) (λk7=>?_)
 ·refine go ?_;refine aj () (hv:=?_) (hp:=trivial);rw[dM (λe=>k7 (by cases e;rfl))];rfl
 refine go ?_;refine ak (aib (xs:=XM) (ys:=XP) (by omega) e7) (next:=λ_ _=>?_);refine go ?_;refine gG (λk8=>?_) (λk8=>?_)
 ·refine go ?_;refine aj () (hv:=?_) (hp:=trivial);rw[dM (λe=>k8 (by cases e;rfl))];rfl
 refine go ?_;refine ak (ah8 (xs:=XN) (ys:=XQ) (by omega)) (next:=λ_ _=>?_);refine go ?_;refine gG (λk9=>?_) (λk9=>?_)
 ·refine go ?_;refine aj () (hv:=?_) (hp:=trivial);rw[dM (λe=>k9 (by cases e;rfl))];rfl
 refine go ?_;refine ak (aic (xs:=PM) (ys:=PN) (by omega) e5) (next:=λ_ _=>?_);refine go ?_;refine aj () (hv:=?_) (hp:=trivial);rw[show decide (dN.mk n1 v1 p1 w1 g1 ho1 XL XM XN PM=dN.mk n2 v2 p2 w2 g2 ho2 XO XP XQ PN)=decide (PM=PN)from nK.2 ⟨λh=>by cases h;rfl,λh=>by rw[k1,k2,k3,k4,k5,k6,k7,k8,k9,h]⟩];rfl
