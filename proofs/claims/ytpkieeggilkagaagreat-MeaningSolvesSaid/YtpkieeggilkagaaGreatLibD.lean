/-
  Names: maps from names to numbers; names that must be there; sets of symbols.
-/
import Derived.Test.YtpkieeggilkagaaGreatPlainB
import Derived.Test.YtpkieeggilkagaaGreatIdealN
import Derived.Test.YtpkieeggilkagaaGreatProg
import Derived.Laws.Strings
set_option linter.unusedSimpArgs false
set_option linter.unusedVariables false
set_option maxRecDepth 10000
set_option maxHeartbeats 2000000
namespace Go.Proofs.YtpkieeggilkagaaGreat
open Go.Ideal Kd
noncomputable def zKG:zt:=⟨2,[(.tmp 0)],(.seq (.ops [0] [⟨⟨(some 0),none,(.asg (.const (.slice none 0 0)))⟩,[]⟩]) (.seq (.ops [1,0] [⟨⟨(some 1),none,(.bslice 9 8 [(.string ⟨⟨[]⟩⟩),(.string ⟨⟨[]⟩⟩),(.string ⟨⟨[]⟩⟩),(.string ⟨⟨[]⟩⟩),(.string ⟨⟨[]⟩⟩),(.string ⟨⟨[]⟩⟩),(.string ⟨⟨[]⟩⟩),(.string ⟨⟨[]⟩⟩)] [⟨0,⟨1,(.const (.string ⟨⟨[99,101,108,108,115]⟩⟩))⟩⟩,⟨1,⟨1,(.const (.string ⟨⟨[114,111,119,115]⟩⟩))⟩⟩,⟨2,⟨1,(.const (.string ⟨⟨[99,111,108,117,109,110,115]⟩⟩))⟩⟩,⟨3,⟨1,(.const (.string ⟨⟨[100,105,97,103,111,110,97,108,115]⟩⟩))⟩⟩,⟨4,⟨1,(.const (.string ⟨⟨[97,114,111,117,110,100]⟩⟩))⟩⟩,⟨5,⟨1,(.const (.string ⟨⟨[110,101,97,114]⟩⟩))⟩⟩,⟨6,⟨1,(.const (.string ⟨⟨[112,97,105,114,115]⟩⟩))⟩⟩,⟨7,⟨1,(.const (.string ⟨⟨[97,108,108]⟩⟩))⟩⟩])⟩,[]⟩,⟨⟨(some 0),none,(.asg (.tmp 1))⟩,[]⟩]) .ret))⟩
theorem f_givenF:enF Tryz.prog 224=some zKG:=by kernel_rfl
abbrev zCe:ByteArray→Value:=fun s=>.string s
theorem zNf:zKl Tryz.prog 9 zCe:=zN8 (by kernel_rfl)
abbrev zLF(e:Int):List PanicEntry:=[{v:=.iface 40 (.int .i64 e),recovered:=false}]
theorem zF0{x:Sym}:FnP Tryz.prog 220 [.agg ⟨[.string x.name,.int .i64 x.value]⟩] [] (.string x.name):=by
 refine zE _ (isC 220) fun B w0=>?_;refine go ?_;intro b;refine go ?_;exact q_fin () (hv:=rfl) (hp:=trivial)
theorem zF8{x:Reg}{v:Value}:FnP Tryz.prog 222 [.agg ⟨[.string x.name,v]⟩] [] (.string x.name):=by
 refine zE _ (isC 222) fun B w0=>?_;refine go ?_;intro b;refine go ?_;exact q_fin () (hv:=rfl) (hp:=trivial)
theorem zGF{x:Clu}:FnP Tryz.prog 227 [.agg ⟨[.string x.name,.string x.on,.int .i64 x.family,.int .i64 x.type,.int .i64 x.lo,.int .i64 x.hi]⟩] [] (.string x.name):=by
 refine zE _ (isC 227) fun B w0=>?_;refine go ?_;intro b;refine go ?_;exact q_fin () (hv:=rfl) (hp:=trivial)
theorem zGU{x:Rul}{v1 v2:Value}:FnP Tryz.prog 231 [.agg ⟨zCG x v1 v2⟩] [] (.string x.name):=by
 refine zE _ (isC 231) fun B w0=>?_;refine go ?_;intro b;refine go ?_;exact q_fin () (hv:=rfl) (hp:=trivial)
theorem zHb{s:ByteArray}:FnP Tryz.prog 225 [.string s] [] (.string s):=by
 refine zE _ (isC 225) fun B w0=>?_;refine go ?_;exact q_fin () (hv:=rfl) (hp:=trivial)
theorem zMV{P:Program}{B:List Nat}{w0:Wd}{kl kl':List OA}{F:List zJ}{K:KO}{ds:List Tmp}{rest:List zQ}{n:Nat}{l:List (Nat×Value)}{D:List Deferred}{pm:Option FrameMode}{ro:Option Nat}{d:Nat}{g:Option (Tmp×Bool)}
 {α:Type} [DecidableEq α] {toV:α→Value} {kt:TypeId} {zero:Value} {m k:Operand} {b:Nat} {kvs:List (α×Value)} (hk:zKl P kt toV) (a:α)
 (hit:∀v,lkp a kvs=some v→a∈kvs.map (·.1)→R (fun h=>OPS P ds rest (act n ((d,.tuple ⟨[v,.bool true]⟩)::l) D pm ro) h K) B w0 kl F)
 (miss:a∉kvs.map (·.1)→R (fun h=>OPS P ds rest (act n ((d,.tuple ⟨[zero,.bool false]⟩)::l) D pm ro) h K) B w0 kl F)
 (hm:ev l m=.map (some b):=by rfl) (ha:ev l k=toV a:=by conv=>lhs;whnf) (hs:autoParam (Sel (mpA toV b kvs) kl kl') zBN._auto_1) (hn:Nat.blt d n=true:=by rfl) (hg:gok l g=true:=by rfl):
 R (fun h=>OPS P ds (⟨⟨some d,g,.lookup kt zero m k true⟩,[]⟩::rest) (act n l D pm ro) h K) B w0 kl F:=by
 refine zH0 (ok:=true) hk a ?_ hm ha hs hn hg;by_cases h:a∈kvs.map (·.1)
 ·obtain⟨v,hv⟩:=zFi h;have e:lkV true zero a kvs=.tuple ⟨[v,.bool true]⟩:=by unfold lkV;rw[hv];rfl
  rw[e];exact hit v hv h
 ·have e:lkV true zero a kvs=.tuple ⟨[zero,.bool false]⟩:=by unfold lkV;rw[zAI h];rfl
  rw[e];exact miss h
theorem zAV{α:Type}{kvs:List (ByteArray×Value)}{xs:List α}{nm:α→ByteArray}{start k:Nat}{x:α}(hx:xs[k]? =some x):
 (kvs++zAi ((xs.take k).map nm) start).map (·.1)=kvs.map (·.1)++(xs.take k).map nm∧zAi ((xs.take (k+1)).map nm) start=zAi ((xs.take k).map nm) start++[(nm x,.int .i64 ((start:Int)+(k:Int)))]:=by
 have hk:=(List.getElem?_eq_some_iff.1 hx).1;refine⟨by rw[List.map_append,zAP],?_⟩;rw[List.take_add_one,hx,List.map_append,zC2];congr 1;rw[List.length_map,List.length_take,Nat.min_eq_left (by omega)];simp[zAi]
theorem zMB{vs:Value}{xs:List ByteArray}{b start:Nat}{kvs:List (ByteArray×Value)}(hl:xs.length≤4096)(hs:start≤4096)(hnd:(kvs.map (·.1)).Nodup):
 FnR Tryz.prog (.func 223) [vs,.int .i64 (start:Int),.func (.func 225) #[] #[],.map (some b)] [] [mpA zCe b kvs] [fSl zC0 vs xs] (fun y:Bool×List ByteArray=>if y.1=true then .ok (.map (some b))else .pan (zLF 161))
  (fun y=>[mpA zCe b (kvs++zAi y.2 start)]) (fun _=>[]) (fun y=>(y.1=true→y.2=xs∧(kvs.map (·.1)++xs).Nodup)∧(y.1=false→¬(kvs.map (·.1)++xs).Nodup)):=by
 let nm:ByteArray→ByteArray:=fun s=>s
 have hmap:∀l:List ByteArray,l.map nm=l:=fun l=>List.map_id' l;suffices h:FnR Tryz.prog (.func 223) [vs,.int .i64 (start:Int),.func (.func 225) #[] #[],.map (some b)] [] [mpA zCe b kvs] [fSl zC0 vs xs] (fun y:Bool×List ByteArray=>if y.1=true then .ok (.map (some b))else .pan (zLF 161))
  (fun y=>[mpA zCe b (kvs++zAi y.2 start)]) (fun _=>[]) (fun y=>(y.1=true→y.2=(xs.map nm)∧(kvs.map (·.1)++xs.map nm).Nodup)∧(y.1=false→¬(kvs.map (·.1)++xs.map nm).Nodup))by
  rw[hmap]at h;exact h
 refine zEa _ (isC 223) fun B w0=>?_;refine go ?_;rw[show mpA zCe b kvs=mpA zCe b (kvs++zAi ((xs.take 0).map nm) start)by simp[zAi]];refine zH (fun k=>xs.length - k) (fun k:Nat=>[(15,.int .i64 (k:Int))]) (fun k=>[mpA zCe b (kvs++zAi ((xs.take k).map nm) start)]) (fun _=>[]) (fun k=>k≤xs.length∧(kvs.map (·.1)++(xs.take k).map nm).Nodup) 0 ⟨Nat.zero_le _,by simpa using hnd⟩ (body:=?_);rintro k ⟨hk,hall⟩;refine go ?_;refine if_d rfl (fun h1=>?_) (fun h1=>?_)
 ·refine go ?_;refine zV zC0 (next:=fun _ _ x (y:Unit) hx=>?_);refine go ?_;refine zA (zHb (s:=x)) (next:=fun _ _=>?_);refine go ?_;refine zMV zNf (nm x) (fun v hv hm=>?_) (fun hm=>?_)
  ·refine go ?_;refine zED ?_;refine go ?_;refine zFL (false,(xs.take k).map nm) (hv:=rfl) (hp:=⟨(fun h=>by cases h),fun _ hn=>?_⟩);rw[(zAV hx).1]at hm;have hsub:(kvs.map (·.1)++(xs.take k).map nm++[nm x]).Nodup:=by
    have e:xs.map nm=(xs.take k).map nm++nm x::(xs.drop (k+1)).map nm:=by
     conv=>lhs;rw[← List.take_append_drop k xs]
     rw[List.map_append];congr 1;rw[List.drop_eq_getElem_cons (List.getElem?_eq_some_iff.1 hx).1,List.map_cons,(List.getElem?_eq_some_iff.1 hx).2]
    rw[e,← List.append_assoc]at hn;rw[List.nodup_append]at hn⊢;exact⟨hn.1,by simp,fun a ha c hc=>hn.2.2 a ha c (by rw[List.mem_singleton.1 hc];exact List.mem_cons_self ..)⟩
   rw[List.nodup_append]at hsub;exact hsub.2.2 _ hm _ (List.mem_singleton.2 rfl) rfl
  refine go ?_;refine zA (zHb (s:=x)) (next:=fun _ _=>?_);refine go ?_;refine zGu zNf (nm x) (kvs:=kvs++zAi ((xs.take k).map nm) start) (v:=.int .i64 ((start:Int)+(k:Int))) ?_;have hm2:=hm;rw[(zAV hx).1]at hm2;rw[zDs hm,List.append_assoc,← (zAV (kvs:=kvs) hx).2];refine go ?_;refine zB (k+1) (by omega) ⟨by omega,?_⟩;rw[List.take_add_one,hx,List.map_append,← List.append_assoc,List.nodup_append];refine⟨hall,by simp,fun a ha c hc=>?_⟩;have:c=nm x:=by simpa using hc
  subst this;intro e;subst e;exact hm2 ha
 have hkl:k=xs.length:=by omega
 subst hkl;rw[List.take_length]at hall;rw[List.take_length];refine go ?_;exact zFk (true,xs.map nm) (hv:=rfl) (hp:=⟨fun _=>⟨rfl,hall⟩,fun h=>by cases h⟩)
theorem zL5{vs:Value}{xs:List Sym}{b start:Nat}{kvs:List (ByteArray×Value)}(hl:xs.length≤4096)(hs:start≤4096)(hnd:(kvs.map (·.1)).Nodup):
 FnR Tryz.prog (.func 219) [vs,.int .i64 (start:Int),.func (.func 220) #[] #[],.map (some b)] [] [mpA zCe b kvs] [fSl zET vs xs] (fun y:Bool×List ByteArray=>if y.1=true then .ok (.map (some b))else .pan (zLF 161))
  (fun y=>[mpA zCe b (kvs++zAi y.2 start)]) (fun _=>[]) (fun y=>(y.1=true→y.2=(xs.map Sym.name)∧(kvs.map (·.1)++xs.map Sym.name).Nodup)∧(y.1=false→¬(kvs.map (·.1)++xs.map Sym.name).Nodup)):=by
 let nm:Sym→ByteArray:=Sym.name
 refine zEa _ (isC 219) fun B w0=>?_;refine go ?_;rw[show mpA zCe b kvs=mpA zCe b (kvs++zAi ((xs.take 0).map nm) start)by simp[zAi]];refine zH (fun k=>xs.length - k) (fun k:Nat=>[(15,.int .i64 (k:Int))]) (fun k=>[mpA zCe b (kvs++zAi ((xs.take k).map nm) start)]) (fun _=>[]) (fun k=>k≤xs.length∧(kvs.map (·.1)++(xs.take k).map nm).Nodup) 0 ⟨Nat.zero_le _,by simpa using hnd⟩ (body:=?_);rintro k ⟨hk,hall⟩;refine go ?_;refine if_d rfl (fun h1=>?_) (fun h1=>?_)
 ·refine go ?_;refine zV zET (next:=fun _ _ x y hx=>?_);refine go ?_;intro b10;refine go ?_;refine zA (zF0 (x:=x)) (next:=fun _ _=>?_);refine go ?_;refine zMV zNf (nm x) (fun v hv hm=>?_) (fun hm=>?_)
  ·refine go ?_;refine zED ?_;refine go ?_;refine zFL (false,(xs.take k).map nm) (hv:=rfl) (hp:=⟨(fun h=>by cases h),fun _ hn=>?_⟩);rw[(zAV hx).1]at hm;have hsub:(kvs.map (·.1)++(xs.take k).map nm++[nm x]).Nodup:=by
    have e:xs.map nm=(xs.take k).map nm++nm x::(xs.drop (k+1)).map nm:=by
     conv=>lhs;rw[← List.take_append_drop k xs]
     rw[List.map_append];congr 1;rw[List.drop_eq_getElem_cons (List.getElem?_eq_some_iff.1 hx).1,List.map_cons,(List.getElem?_eq_some_iff.1 hx).2]
    rw[e,← List.append_assoc]at hn;rw[List.nodup_append]at hn⊢;exact⟨hn.1,by simp,fun a ha c hc=>hn.2.2 a ha c (by rw[List.mem_singleton.1 hc];exact List.mem_cons_self ..)⟩
   rw[List.nodup_append]at hsub;exact hsub.2.2 _ hm _ (List.mem_singleton.2 rfl) rfl
  refine go ?_;refine zA (zF0 (x:=x)) (next:=fun _ _=>?_);refine go ?_;refine zGu zNf (nm x) (kvs:=kvs++zAi ((xs.take k).map nm) start) (v:=.int .i64 ((start:Int)+(k:Int))) ?_;have hm2:=hm;rw[(zAV hx).1]at hm2;rw[zDs hm,List.append_assoc,← (zAV (kvs:=kvs) hx).2];refine go ?_;refine zB (k+1) (by omega) ⟨by omega,?_⟩;rw[List.take_add_one,hx,List.map_append,← List.append_assoc,List.nodup_append];refine⟨hall,by simp,fun a ha c hc=>?_⟩;have:c=nm x:=by simpa using hc
  subst this;intro e;subst e;exact hm2 ha
 have hkl:k=xs.length:=by omega
 subst hkl;rw[List.take_length]at hall;rw[List.take_length];refine go ?_;exact zFk (true,xs.map nm) (hv:=rfl) (hp:=⟨fun _=>⟨rfl,hall⟩,fun h=>by cases h⟩)
theorem zMq{vs:Value}{xs:List Reg}{b start:Nat}{kvs:List (ByteArray×Value)}(hl:xs.length≤4096)(hs:start≤4096)(hnd:(kvs.map (·.1)).Nodup):
 FnR Tryz.prog (.func 221) [vs,.int .i64 (start:Int),.func (.func 222) #[] #[],.map (some b)] [] [mpA zCe b kvs] [fSl zEk vs xs] (fun y:Bool×List ByteArray=>if y.1=true then .ok (.map (some b))else .pan (zLF 161))
  (fun y=>[mpA zCe b (kvs++zAi y.2 start)]) (fun _=>[]) (fun y=>(y.1=true→y.2=(xs.map Reg.name)∧(kvs.map (·.1)++xs.map Reg.name).Nodup)∧(y.1=false→¬(kvs.map (·.1)++xs.map Reg.name).Nodup)):=by
 let nm:Reg→ByteArray:=Reg.name
 refine zEa _ (isC 221) fun B w0=>?_;refine go ?_;rw[show mpA zCe b kvs=mpA zCe b (kvs++zAi ((xs.take 0).map nm) start)by simp[zAi]];refine zH (fun k=>xs.length - k) (fun k:Nat=>[(15,.int .i64 (k:Int))]) (fun k=>[mpA zCe b (kvs++zAi ((xs.take k).map nm) start)]) (fun _=>[]) (fun k=>k≤xs.length∧(kvs.map (·.1)++(xs.take k).map nm).Nodup) 0 ⟨Nat.zero_le _,by simpa using hnd⟩ (body:=?_);rintro k ⟨hk,hall⟩;refine go ?_;refine if_d rfl (fun h1=>?_) (fun h1=>?_)
 ·refine go ?_;refine zV zEk (next:=fun _ _ x y hx=>?_);refine go ?_;intro b10;refine go ?_;refine zA (zF8 (x:=x) (v:=y)) (next:=fun _ _=>?_);refine go ?_;refine zMV zNf (nm x) (fun v hv hm=>?_) (fun hm=>?_)
  ·refine go ?_;refine zED ?_;refine go ?_;refine zFL (false,(xs.take k).map nm) (hv:=rfl) (hp:=⟨(fun h=>by cases h),fun _ hn=>?_⟩);rw[(zAV hx).1]at hm;have hsub:(kvs.map (·.1)++(xs.take k).map nm++[nm x]).Nodup:=by
    have e:xs.map nm=(xs.take k).map nm++nm x::(xs.drop (k+1)).map nm:=by
     conv=>lhs;rw[← List.take_append_drop k xs]
     rw[List.map_append];congr 1;rw[List.drop_eq_getElem_cons (List.getElem?_eq_some_iff.1 hx).1,List.map_cons,(List.getElem?_eq_some_iff.1 hx).2]
    rw[e,← List.append_assoc]at hn;rw[List.nodup_append]at hn⊢;exact⟨hn.1,by simp,fun a ha c hc=>hn.2.2 a ha c (by rw[List.mem_singleton.1 hc];exact List.mem_cons_self ..)⟩
   rw[List.nodup_append]at hsub;exact hsub.2.2 _ hm _ (List.mem_singleton.2 rfl) rfl
  refine go ?_;refine zA (zF8 (x:=x) (v:=y)) (next:=fun _ _=>?_);refine go ?_;refine zGu zNf (nm x) (kvs:=kvs++zAi ((xs.take k).map nm) start) (v:=.int .i64 ((start:Int)+(k:Int))) ?_;have hm2:=hm;rw[(zAV hx).1]at hm2;rw[zDs hm,List.append_assoc,← (zAV (kvs:=kvs) hx).2];refine go ?_;refine zB (k+1) (by omega) ⟨by omega,?_⟩;rw[List.take_add_one,hx,List.map_append,← List.append_assoc,List.nodup_append];refine⟨hall,by simp,fun a ha c hc=>?_⟩;have:c=nm x:=by simpa using hc
  subst this;intro e;subst e;exact hm2 ha
 have hkl:k=xs.length:=by omega
 subst hkl;rw[List.take_length]at hall;rw[List.take_length];refine go ?_;exact zFk (true,xs.map nm) (hv:=rfl) (hp:=⟨fun _=>⟨rfl,hall⟩,fun h=>by cases h⟩)
theorem zL7{vs:Value}{xs:List Clu}{b start:Nat}{kvs:List (ByteArray×Value)}(hl:xs.length≤4096)(hs:start≤4096)(hnd:(kvs.map (·.1)).Nodup):
 FnR Tryz.prog (.func 226) [vs,.int .i64 (start:Int),.func (.func 227) #[] #[],.map (some b)] [] [mpA zCe b kvs] [fSl zAS vs xs] (fun y:Bool×List ByteArray=>if y.1=true then .ok (.map (some b))else .pan (zLF 161))
  (fun y=>[mpA zCe b (kvs++zAi y.2 start)]) (fun _=>[]) (fun y=>(y.1=true→y.2=(xs.map Clu.name)∧(kvs.map (·.1)++xs.map Clu.name).Nodup)∧(y.1=false→¬(kvs.map (·.1)++xs.map Clu.name).Nodup)):=by
 let nm:Clu→ByteArray:=Clu.name
 refine zEa _ (isC 226) fun B w0=>?_;refine go ?_;rw[show mpA zCe b kvs=mpA zCe b (kvs++zAi ((xs.take 0).map nm) start)by simp[zAi]];refine zH (fun k=>xs.length - k) (fun k:Nat=>[(15,.int .i64 (k:Int))]) (fun k=>[mpA zCe b (kvs++zAi ((xs.take k).map nm) start)]) (fun _=>[]) (fun k=>k≤xs.length∧(kvs.map (·.1)++(xs.take k).map nm).Nodup) 0 ⟨Nat.zero_le _,by simpa using hnd⟩ (body:=?_);rintro k ⟨hk,hall⟩;refine go ?_;refine if_d rfl (fun h1=>?_) (fun h1=>?_)
 ·refine go ?_;refine zV zAS (next:=fun _ _ x y hx=>?_);refine go ?_;intro b10;refine go ?_;refine zA (zGF (x:=x)) (next:=fun _ _=>?_);refine go ?_;refine zMV zNf (nm x) (fun v hv hm=>?_) (fun hm=>?_)
  ·refine go ?_;refine zED ?_;refine go ?_;refine zFL (false,(xs.take k).map nm) (hv:=rfl) (hp:=⟨(fun h=>by cases h),fun _ hn=>?_⟩);rw[(zAV hx).1]at hm;have hsub:(kvs.map (·.1)++(xs.take k).map nm++[nm x]).Nodup:=by
    have e:xs.map nm=(xs.take k).map nm++nm x::(xs.drop (k+1)).map nm:=by
     conv=>lhs;rw[← List.take_append_drop k xs]
     rw[List.map_append];congr 1;rw[List.drop_eq_getElem_cons (List.getElem?_eq_some_iff.1 hx).1,List.map_cons,(List.getElem?_eq_some_iff.1 hx).2]
    rw[e,← List.append_assoc]at hn;rw[List.nodup_append]at hn⊢;exact⟨hn.1,by simp,fun a ha c hc=>hn.2.2 a ha c (by rw[List.mem_singleton.1 hc];exact List.mem_cons_self ..)⟩
   rw[List.nodup_append]at hsub;exact hsub.2.2 _ hm _ (List.mem_singleton.2 rfl) rfl
  refine go ?_;refine zA (zGF (x:=x)) (next:=fun _ _=>?_);refine go ?_;refine zGu zNf (nm x) (kvs:=kvs++zAi ((xs.take k).map nm) start) (v:=.int .i64 ((start:Int)+(k:Int))) ?_;have hm2:=hm;rw[(zAV hx).1]at hm2;rw[zDs hm,List.append_assoc,← (zAV (kvs:=kvs) hx).2];refine go ?_;refine zB (k+1) (by omega) ⟨by omega,?_⟩;rw[List.take_add_one,hx,List.map_append,← List.append_assoc,List.nodup_append];refine⟨hall,by simp,fun a ha c hc=>?_⟩;have:c=nm x:=by simpa using hc
  subst this;intro e;subst e;exact hm2 ha
 have hkl:k=xs.length:=by omega
 subst hkl;rw[List.take_length]at hall;rw[List.take_length];refine go ?_;exact zFk (true,xs.map nm) (hv:=rfl) (hp:=⟨fun _=>⟨rfl,hall⟩,fun h=>by cases h⟩)
theorem zLW{vs:Value}{xs:List Rul}{b start:Nat}{kvs:List (ByteArray×Value)}(hl:xs.length≤4096)(hs:start≤4096)(hnd:(kvs.map (·.1)).Nodup):
 FnR Tryz.prog (.func 230) [vs,.int .i64 (start:Int),.func (.func 231) #[] #[],.map (some b)] [] [mpA zCe b kvs] [fSl zn vs xs] (fun y:Bool×List ByteArray=>if y.1=true then .ok (.map (some b))else .pan (zLF 161))
  (fun y=>[mpA zCe b (kvs++zAi y.2 start)]) (fun _=>[]) (fun y=>(y.1=true→y.2=(xs.map Rul.name)∧(kvs.map (·.1)++xs.map Rul.name).Nodup)∧(y.1=false→¬(kvs.map (·.1)++xs.map Rul.name).Nodup)):=by
 let nm:Rul→ByteArray:=Rul.name
 refine zEa _ (isC 230) fun B w0=>?_;refine go ?_;rw[show mpA zCe b kvs=mpA zCe b (kvs++zAi ((xs.take 0).map nm) start)by simp[zAi]];refine zH (fun k=>xs.length - k) (fun k:Nat=>[(15,.int .i64 (k:Int))]) (fun k=>[mpA zCe b (kvs++zAi ((xs.take k).map nm) start)]) (fun _=>[]) (fun k=>k≤xs.length∧(kvs.map (·.1)++(xs.take k).map nm).Nodup) 0 ⟨Nat.zero_le _,by simpa using hnd⟩ (body:=?_);rintro k ⟨hk,hall⟩;refine go ?_;refine if_d rfl (fun h1=>?_) (fun h1=>?_)
 ·refine go ?_;refine zV zn (next:=fun _ _ x y hx=>?_);refine go ?_;intro b10;refine go ?_;refine zA (zGU (x:=x) (v1:=y.1) (v2:=y.2)) (next:=fun _ _=>?_);refine go ?_;refine zMV zNf (nm x) (fun v hv hm=>?_) (fun hm=>?_)
  ·refine go ?_;refine zED ?_;refine go ?_;refine zFL (false,(xs.take k).map nm) (hv:=rfl) (hp:=⟨(fun h=>by cases h),fun _ hn=>?_⟩);rw[(zAV hx).1]at hm;have hsub:(kvs.map (·.1)++(xs.take k).map nm++[nm x]).Nodup:=by
    have e:xs.map nm=(xs.take k).map nm++nm x::(xs.drop (k+1)).map nm:=by
     conv=>lhs;rw[← List.take_append_drop k xs]
     rw[List.map_append];congr 1;rw[List.drop_eq_getElem_cons (List.getElem?_eq_some_iff.1 hx).1,List.map_cons,(List.getElem?_eq_some_iff.1 hx).2]
    rw[e,← List.append_assoc]at hn;rw[List.nodup_append]at hn⊢;exact⟨hn.1,by simp,fun a ha c hc=>hn.2.2 a ha c (by rw[List.mem_singleton.1 hc];exact List.mem_cons_self ..)⟩
   rw[List.nodup_append]at hsub;exact hsub.2.2 _ hm _ (List.mem_singleton.2 rfl) rfl
  refine go ?_;refine zA (zGU (x:=x) (v1:=y.1) (v2:=y.2)) (next:=fun _ _=>?_);refine go ?_;refine zGu zNf (nm x) (kvs:=kvs++zAi ((xs.take k).map nm) start) (v:=.int .i64 ((start:Int)+(k:Int))) ?_;have hm2:=hm;rw[(zAV hx).1]at hm2;rw[zDs hm,List.append_assoc,← (zAV (kvs:=kvs) hx).2];refine go ?_;refine zB (k+1) (by omega) ⟨by omega,?_⟩;rw[List.take_add_one,hx,List.map_append,← List.append_assoc,List.nodup_append];refine⟨hall,by simp,fun a ha c hc=>?_⟩;have:c=nm x:=by simpa using hc
  subst this;intro e;subst e;exact hm2 ha
 have hkl:k=xs.length:=by omega
 subst hkl;rw[List.take_length]at hall;rw[List.take_length];refine go ?_;exact zFk (true,xs.map nm) (hv:=rfl) (hp:=⟨fun _=>⟨rfl,hall⟩,fun h=>by cases h⟩)
end Go.Proofs.YtpkieeggilkagaaGreat
namespace Go.Proofs.YtpkieeggilkagaaGreat
open Go.Ideal Kd
noncomputable def zIq:zt:=⟨9,[],(.seq (.ops [3,2] [⟨⟨(some 3),none,.recover⟩,[]⟩,⟨⟨(some 2),none,(.asg (.tmp 3))⟩,[]⟩]) (.seq (.ops [4,5] [⟨⟨(some 4),none,(.mv (.tmp 2))⟩,[]⟩,⟨⟨(some 5),none,(.bin .neq 20 (.tmp 4) (.const .nilIface))⟩,[]⟩]) (.cond (.tmp 5) (.ops [6,7,8] [⟨⟨(some 6),none,(.build [(.string ⟨⟨[]⟩⟩),(.int .i64 0),(.int .i64 0),(.int .i64 0),(.int .i64 0),(.slice none 0 0),(.slice none 0 0),(.slice none 0 0),(.slice none 0 0),(.slice none 0 0)] [])⟩,[]⟩,⟨⟨(some 7),none,(.mv (.tmp 2))⟩,[]⟩,⟨⟨(some 8),none,(.tassert 40 (.int .i64 0) false (.tmp 7))⟩,[]⟩,⟨⟨none,none,(.store 10 (.tmp 0) (.tmp 6))⟩,[]⟩,⟨⟨none,none,(.store 1 (.tmp 1) (.tmp 8))⟩,[]⟩]) .skip)))⟩
theorem f_rslv1:enF Tryz.prog 218=some zIq:=by kernel_rfl
section
variable {P:Program} {B:List Nat} {w0:Wd} {kl kl':List OA} {F:List zJ} {K:KO} {ds:List Tmp} {rest:List zQ} {n:Nat} {l:List (Nat×Value)} {D:List Deferred} {pm:Option FrameMode} {ro:Option Nat} {d:Nat} {g:Option (Tmp×Bool)}
theorem zQZ{α:Type}[DecidableEq α]{toV:α→Value}{kt:TypeId}{zero:Value}{m k:Operand}{b:Nat}{kvs:List (α×Value)}(hk:zKl P kt toV)(a:α)
 (hit:∀v,lkp a kvs=some v→a∈kvs.map (·.1)→R (fun h=>OPS P ds rest (act n ((d,.tuple ⟨[v,.bool true]⟩)::l) D pm ro) h K) B w0 kl F)
 (miss:a∉kvs.map (·.1)→R (fun h=>OPS P ds rest (act n ((d,.tuple ⟨[zero,.bool false]⟩)::l) D pm ro) h K) B w0 kl F)
 (hm:ev l m=.map (some b):=by rfl) (ha:ev l k=toV a:=by conv=>lhs;whnf) (hf:autoParam (zOF toV b kvs∈F) zN1._auto_1) (hn:Nat.blt d n=true:=by rfl) (hg:gok l g=true:=by rfl):
 R (fun h=>OPS P ds (⟨⟨some d,g,.lookup kt zero m k true⟩,[]⟩::rest) (act n l D pm ro) h K) B w0 kl F:=by
 refine zMg (ok:=true) hk a ?_ hm ha hf hn hg;by_cases h:a∈kvs.map (·.1)
 ·obtain⟨v,hv⟩:=zFi h;have e:lkV true zero a kvs=.tuple ⟨[v,.bool true]⟩:=by unfold lkV;rw[hv];rfl
  rw[e];exact hit v hv h
 ·have e:lkV true zero a kvs=.tuple ⟨[zero,.bool false]⟩:=by unfold lkV;rw[zAI h];rfl
  rw[e];exact miss h
theorem zGm{α:Type}(E:Enc α){v:Value}{xys:List (α×E.Y)}{Q:IH→Prop}(h0:xys=[]→∀c,v=.slice none 0 c→R Q B w0 kl F)(h1:xys=[]→∀i o f c,v=.slice (some ⟨i,o,some f⟩) 0 c→R Q B w0 kl F)
 (h2:0<xys.length→∀i o f c,v=.slice (some ⟨i,o,some f⟩) xys.length c→R Q B w0 kl F) (hf:autoParam (fEl E v xys∈F) zN1._auto_1):R Q B w0 kl F:=fun w s=>by
 rcases s.facts _ hf with⟨e,a,c,hv,hg⟩|⟨i,o,f,c,cells,⟨hv,_⟩,_⟩
 ·match a,hv,hg with
  |none,hv,_=>exact h0 e c hv w s
  |some ⟨i,o,some f⟩,hv,_=>exact h1 e i o f c hv w s
 ·by_cases hx:xys=[]
  ·subst hx;exact h1 rfl i o f c hv w s
  ·exact h2 (List.length_pos_iff.2 hx) i o f c hv w s
theorem zLg{α:Type}(E:Enc α){Q:IH→Prop}(h:R Q B w0 (ar E (.slice none 0 0) []::kl) F):R Q B w0 kl F:=fun w s=>by
 obtain⟨S,h1,h2,h3⟩:=s.own;exact h w ⟨s.agree,s.le,s.zold,⟨S,⟨[],S,.inl ⟨rfl,⟨none,rfl,trivial⟩,rfl⟩,h1,rfl⟩,h2,h3⟩,s.facts⟩
end
theorem zO5:FnC Tryz.prog (.func 224) [] [] [] [] (fun v:Value=>v) (fun _=>[]) (fun v=>[fSl zC0 v zFB]) (fun _=>True):=by
 refine zE zKG f_givenF fun B w0=>?_;refine go ?_;intro b;refine go ?_;refine zAL (b:=b) (m:=8) (f:=0) zC0 (xys:=zFB.map fun s=>(s,())) rfl (.inl rfl) ?_ (hk:=Sel.here);refine zGs (E:=zC0) ?_ (fun w hw p hp f hf=>by cases hf);exact q_fin (.slice (some ⟨b,0,some 0⟩) 8 8) (hv:=rfl) (hp:=trivial) (hF:=.cons (List.mem_cons_of_mem _ (List.mem_cons_self ..)) .nil)
theorem zGe{b:Nat}{s:ByteArray}{kvs:List (ByteArray×Value)}:
 FnR Tryz.prog (.func 229) [.map (some b),.string s] [] [] [zOF zCe b kvs] (fun y:Option Value=>match y with|some v=>.ok v|none=>.pan (zLF 160)) (fun _=>[]) (fun _=>[]) (fun y=>y=lkp s kvs):=by
 refine zEa _ (isC 229) fun B w0=>?_;refine go ?_;refine zQZ zNf s (fun v hv hm=>?_) (fun hm=>?_)
 ·refine go ?_;exact zFk (some v) (hv:=rfl) (hp:=hv.symm)
 ·refine go ?_;refine zED ?_;refine go ?_;exact zFL none (hv:=rfl) (hp:=(zAI hm).symm)
theorem zNX{syms l:List ByteArray}{k:Nat}{s:ByteArray}(h:l[k]? =some s):setN syms (l.take (k+1))=setN syms (l.take k)|||1<<<posn s syms:=by
 unfold setN;rw[List.take_add_one,h,List.foldl_append];rfl
theorem zNS{syms:List ByteArray}(hs:syms.length≤16):∀(l:List ByteArray) (m:Nat),(∀s∈l,s∈syms)→m<65536→l.foldl (fun m s=>m|||1<<<posn s syms) m<65536
 |[],m,_,hm=>hm
 |s::l,m,h,hm=>by
  rw[List.foldl_cons];refine zNS hs l _ (fun x hx=>h x (List.mem_cons_of_mem _ hx)) ?_;have h1:=zCR (h s (List.mem_cons_self ..));have h2:1<<<posn s syms<2^16:=by
   rw[Nat.shiftLeft_eq,Nat.one_mul];exact Nat.pow_lt_pow_right (by omega) (by omega)
  exact Nat.or_lt_two_pow (n:=16) hm h2
theorem zLh{b4 bs:Nat}{vl:Value}{syms l:List ByteArray}(hs:syms.length≤16)(hl:l.length<9223372036854775808):
 FnR Tryz.prog (.func 233) [vl] [ptr' b4] [] [fRaw b4 0 [.map (some bs)],zOF zCe bs (zAi syms 0),fSl zC0 vl l] (fun y:Bool=>if y=true then .ok (.int .i64 (setN syms l:Int))else .pan (zLF 160)) (fun _=>[]) (fun _=>[])
  (fun y=>(y=true→∀s∈l,s∈syms)∧(y=false→¬∀s∈l,s∈syms)):=by
 refine zEa _ (isC 233) fun B w0=>?_;refine go ?_;refine zH (fun k=>l.length - k) (fun k:Nat=>[(8,.int .i64 (k:Int)),(3,.int .i64 (setN syms (l.take k):Int))]) (fun _=>[]) (fun _=>[]) (fun k=>k≤l.length∧∀s∈l.take k,s∈syms) 0 ⟨Nat.zero_le _,by simp⟩ (body:=?_);rintro k ⟨hk,hall⟩;refine go ?_;refine if_d rfl (fun h1=>?_) (fun h1=>?_)
 ·refine go ?_;refine zV zC0 (next:=fun _ _ x (y:Unit) hx=>?_);refine go ?_;refine zA9 (zGe (b:=bs) (s:=x) (kvs:=zAi syms 0)) (fun y v hy e=>?_) (fun y ch hy e=>?_)
  ·have hm:x∈syms:=by
    by_cases h:x∈syms
    ·exact h
    ·rw[zAI (by rw[zAP];exact h)]at hy;subst hy;cases e
   rw[zA0 hm]at hy;subst hy;injection e with e;subst e;have hp:=zCR hm;have h2:1<<<posn x syms<2^16:=by
    rw[Nat.shiftLeft_eq,Nat.one_mul];exact Nat.pow_lt_pow_right (by omega) (by omega)
   have h3:=zNS hs (l.take k) 0 hall (by omega);rw[Nat.zero_add];refine(d_p rfl rfl (zOK (a:=1) (b:=posn x syms) rfl rfl (by omega) (by omega))).h ?_;refine(d_p rfl rfl (zU0 (a:=setN syms (l.take k)) (b:=1<<<posn x syms) rfl rfl (Nat.lt_trans h3 (by omega)) (by omega))).h ?_;refine go ?_;refine zB (k+1) (by omega) ⟨by omega,fun s hs'=>?_⟩ (hl:=⟨rfl,by rw[zNX hx];rfl,by repeat (first|exact trivial|refine⟨rfl,?_⟩)⟩);rw[List.take_add_one,hx]at hs';rcases List.mem_append.1 hs' with h|h
   ·exact hall s h
   ·have:s=x:=by simpa using h
    rw[this];exact hm
  ·refine go ?_;have hm:x∉syms:=by
    intro h;rw[zA0 h]at hy;subst hy;cases e
   have hch:ch=zLF 160:=by
    rw[zAI (by rw[zAP];exact hm)]at hy;subst hy;injection e with e;exact e.symm
   subst hch;exact zFL false (hv:=rfl) (hp:=⟨(fun h=>by cases h),fun _ h=>hm (h x (List.mem_of_getElem? hx))⟩)
 have hkl:k=l.length:=by omega
 subst hkl;rw[List.take_length]at hall⊢;refine go ?_;exact zFk true (hv:=rfl) (hp:=⟨fun _=>hall,fun h=>by cases h⟩)
theorem zNE{v:Value}{xys:List (Clu×zAS.Y)}(hl:xys.length≤4096):FnC Tryz.prog (.func 228) [v] [] [] [fEl zAS v xys] (fun v':Value=>v') (fun v'=>[ar zAS v' xys]) (fun _=>[]) (fun _=>True):=by
 refine zE _ (isC 228) fun B w0=>?_;refine zGm (v:=v) (xys:=xys) zAS (fun e c ev=>?_) (fun e i o f c ev=>?_) (fun hne i o f c ev=>?_)
 ·subst e ev;refine go ?_;refine(d_p rfl rfl (zJi (e:=110) (by kernel_rfl) rfl)).h ?_;refine go ?_;refine zLg zAS ?_;exact q_fin (.slice none 0 0) (hv:=rfl) (hp:=trivial)
 ·subst e ev;refine go ?_;refine(d_p rfl rfl (zF3 (e:=110) (by kernel_rfl) rfl)).h ?_;refine go ?_;intro b;refine go ?_;refine zIb (b:=b) ?_;refine go ?_;refine zAL (b:=b) (m:=0) (f:=0) zAS (xys:=[]) rfl (.inl rfl) ?_ (hk:=Sel.here);exact q_fin (.slice (some ⟨b,0,some 0⟩) 0 0) (hv:=rfl) (hp:=trivial)
 ·subst ev;refine go ?_;refine(d_p rfl rfl (zF3 (e:=110) (by kernel_rfl) rfl)).h ?_;refine go ?_;intro b;refine go ?_;refine zNU (b:=b) zAS xys hne (by omega) (fun b'=>?_);refine go ?_;refine zAL (b:=b') (m:=xys.length) (f:=zAS.n) zAS (xys:=xys) rfl (.inr rfl) ?_ (hk:=Sel.here);exact q_fin (.slice (some ⟨b',0,some zAS.n⟩) xys.length xys.length) (hv:=rfl) (hp:=trivial)
theorem zMZ{v:Value}{xys:List (Rul×zn.Y)}(hl:xys.length≤4096):FnC Tryz.prog (.func 232) [v] [] [] [fEl zn v xys] (fun v':Value=>v') (fun v'=>[ar zn v' xys]) (fun _=>[]) (fun _=>True):=by
 refine zE _ (isC 232) fun B w0=>?_;refine zGm (v:=v) (xys:=xys) zn (fun e c ev=>?_) (fun e i o f c ev=>?_) (fun hne i o f c ev=>?_)
 ·subst e ev;refine go ?_;refine(d_p rfl rfl (zJi (e:=71) (by kernel_rfl) rfl)).h ?_;refine go ?_;refine zLg zn ?_;exact q_fin (.slice none 0 0) (hv:=rfl) (hp:=trivial)
 ·subst e ev;refine go ?_;refine(d_p rfl rfl (zF3 (e:=71) (by kernel_rfl) rfl)).h ?_;refine go ?_;intro b;refine go ?_;refine zIb (b:=b) ?_;refine go ?_;refine zAL (b:=b) (m:=0) (f:=0) zn (xys:=[]) rfl (.inl rfl) ?_ (hk:=Sel.here);exact q_fin (.slice (some ⟨b,0,some 0⟩) 0 0) (hv:=rfl) (hp:=trivial)
 ·subst ev;refine go ?_;refine(d_p rfl rfl (zF3 (e:=71) (by kernel_rfl) rfl)).h ?_;refine go ?_;intro b;refine go ?_;refine zNU (b:=b) zn xys hne (by omega) (fun b'=>?_);refine go ?_;refine zAL (b:=b') (m:=xys.length) (f:=zn.n) zn (xys:=xys) rfl (.inr rfl) ?_ (hk:=Sel.here);exact q_fin (.slice (some ⟨b',0,some zn.n⟩) xys.length xys.length) (hv:=rfl) (hp:=trivial)
end Go.Proofs.YtpkieeggilkagaaGreat
set_option maxHeartbeats 4000000
namespace Go.Proofs.YtpkieeggilkagaaGreat
open Go.Ideal Kd
noncomputable def zJZ:zt:=⟨128,[(.cellN 10 2),(.cell1 3)],(.seq (.ops [1,2,3] [⟨⟨(some 1),none,(.box (.tmp 0) 28)⟩,[]⟩,⟨⟨(some 2),none,(.new [(.string ⟨⟨[]⟩⟩),(.int .i64 0),(.int .i64 0),(.int .i64 0),(.int .i64 0),(.slice none 0 0),(.slice none 0 0),(.slice none 0 0),(.slice none 0 0),(.slice none 0 0)] 28)⟩,[]⟩,⟨⟨(some 3),none,(.new [(.int .i64 0)] 40)⟩,[]⟩]) (.seq (.ops [11] [⟨⟨(some 11),none,(.mkfunc (.func 218) [] [(.tmp 2),(.tmp 3)])⟩,[]⟩,⟨⟨none,none,(.dcall (.tmp 11) [])⟩,[]⟩]) (.seq (.seq (.ops [12,13,14,15] [⟨⟨(some 12),none,(.fieldA 6 (.tmp 1))⟩,[]⟩,⟨⟨(some 13),none,(.load1 (.tmp 12))⟩,[]⟩,⟨⟨(some 14),none,(.lenSl (.tmp 13))⟩,[]⟩,⟨⟨(some 15),none,(.bin .gtr 3 (.tmp 14) (.const (.int .i64 16)))⟩,[]⟩]) (.cond (.tmp 15) (.seq (.ops [16] [⟨⟨(some 16),none,(.loadN 10 (.tmp 2))⟩,[]⟩,⟨⟨none,none,(.store 10 (.tmp 2) (.tmp 16))⟩,[]⟩,⟨⟨none,none,(.store 1 (.tmp 3) (.const (.int .i64 2)))⟩,[]⟩]) .ret) .skip)) (.seq (.ops [17,18,19,20,4] [⟨⟨(some 17),none,(.fieldA 6 (.tmp 1))⟩,[]⟩,⟨⟨(some 18),none,(.load1 (.tmp 17))⟩,[]⟩,⟨⟨(some 19),none,.mkmap⟩,[]⟩,⟨⟨(some 20),none,(.call (.func 219) [(.tmp 18),(.const (.int .i64 0)),(.func 220),(.tmp 19)])⟩,[]⟩,⟨⟨(some 4),none,(.new [(.map none)] 217)⟩,[]⟩,⟨⟨none,none,(.store 1 (.tmp 4) (.tmp 20))⟩,[]⟩]) (.seq (.ops [21,22,23,24,25,26,5] [⟨⟨(some 21),none,(.fieldA 7 (.tmp 1))⟩,[]⟩,⟨⟨(some 22),none,(.load1 (.tmp 21))⟩,[]⟩,⟨⟨(some 24),none,.mkmap⟩,[]⟩,⟨⟨(some 23),none,(.call (.func 224) [])⟩,[⟨(some 22),none,(.load1 (.tmp 21))⟩]⟩,⟨⟨(some 25),none,(.call (.func 223) [(.tmp 23),(.const (.int .i64 0)),(.func 225),(.tmp 24)])⟩,[⟨(some 22),none,(.load1 (.tmp 21))⟩]⟩,⟨⟨(some 26),none,(.call (.func 221) [(.tmp 22),(.const (.int .i64 8)),(.func 222),(.tmp 25)])⟩,[]⟩,⟨⟨(some 5),none,(.asg (.tmp 26))⟩,[]⟩]) (.seq (.ops [27,28,29,30,6] [⟨⟨(some 27),none,(.fieldA 8 (.tmp 1))⟩,[]⟩,⟨⟨(some 28),none,(.load1 (.tmp 27))⟩,[]⟩,⟨⟨(some 29),none,.mkmap⟩,[]⟩,⟨⟨(some 30),none,(.call (.func 226) [(.tmp 28),(.const (.int .i64 0)),(.func 227),(.tmp 29)])⟩,[]⟩,⟨⟨(some 6),none,(.asg (.tmp 30))⟩,[]⟩]) (.seq (.ops [31,32,33,34] [⟨⟨(some 31),none,(.fieldA 8 (.tmp 1))⟩,[]⟩,⟨⟨(some 32),none,(.load1 (.tmp 31))⟩,[]⟩,⟨⟨(some 33),none,(.call (.func 228) [(.tmp 32)])⟩,[]⟩,⟨⟨(some 34),none,(.fieldA 8 (.tmp 1))⟩,[]⟩,⟨⟨none,none,(.store 1 (.tmp 34) (.tmp 33))⟩,[]⟩]) (.seq (.seq (.ops [35,36,37,38] [⟨⟨(some 35),none,(.fieldA 8 (.tmp 1))⟩,[]⟩,⟨⟨(some 36),none,(.load1 (.tmp 35))⟩,[]⟩,⟨⟨(some 37),none,(.lenSl (.tmp 36))⟩,[]⟩,⟨⟨(some 38),none,(.mv (.const (.int .i64 0)))⟩,[]⟩]) (.block 0 (.loop (.seq (.ops [39] [⟨⟨(some 39),none,(.bin .lss 3 (.tmp 38) (.tmp 37))⟩,[]⟩]) (.seq (.cond (.tmp 39) .skip (.exit 0)) (.seq (.block 1 (.seq (.ops [40,7] [⟨⟨(some 40),none,(.mv (.tmp 38))⟩,[]⟩,⟨⟨(some 7),none,(.asg (.tmp 40))⟩,[]⟩]) (.ops [41,42,43,44,45,46,47,48,49,50,51,52,53] [⟨⟨(some 41),none,(.fieldA 8 (.tmp 1))⟩,[]⟩,⟨⟨(some 42),none,(.load1 (.tmp 41))⟩,[]⟩,⟨⟨(some 43),none,(.mv (.tmp 7))⟩,[]⟩,⟨⟨(some 44),none,(.mv (.tmp 5))⟩,[]⟩,⟨⟨(some 45),none,(.fieldA 8 (.tmp 1))⟩,[]⟩,⟨⟨(some 46),none,(.load1 (.tmp 45))⟩,[]⟩,⟨⟨(some 47),none,(.mv (.tmp 7))⟩,[]⟩,⟨⟨(some 48),none,(.idxSl 6 (.tmp 46) (.tmp 47))⟩,[]⟩,⟨⟨(some 49),none,(.fieldA 1 (.tmp 48))⟩,[]⟩,⟨⟨(some 50),none,(.load1 (.tmp 49))⟩,[]⟩,⟨⟨(some 51),none,(.call (.func 229) [(.tmp 44),(.tmp 50)])⟩,[⟨(some 42),none,(.load1 (.tmp 41))⟩]⟩,⟨⟨(some 52),none,(.idxSl 6 (.tmp 42) (.tmp 43))⟩,[]⟩,⟨⟨(some 53),none,(.fieldA 2 (.tmp 52))⟩,[]⟩,⟨⟨none,none,(.store 1 (.tmp 53) (.tmp 51))⟩,[]⟩]))) (.ops [54,38] [⟨⟨(some 54),none,(.bin .add 3 (.tmp 38) (.const (.int .i64 1)))⟩,[]⟩,⟨⟨(some 38),none,(.mv (.tmp 54))⟩,[]⟩]))))))) (.seq (.ops [55,56,57,58] [⟨⟨(some 55),none,(.fieldA 9 (.tmp 1))⟩,[]⟩,⟨⟨(some 56),none,(.load1 (.tmp 55))⟩,[]⟩,⟨⟨(some 57),none,.mkmap⟩,[]⟩,⟨⟨(some 58),none,(.call (.func 230) [(.tmp 56),(.const (.int .i64 0)),(.func 231),(.tmp 57)])⟩,[]⟩]) (.seq (.ops [59,60,61,62] [⟨⟨(some 59),none,(.fieldA 9 (.tmp 1))⟩,[]⟩,⟨⟨(some 60),none,(.load1 (.tmp 59))⟩,[]⟩,⟨⟨(some 61),none,(.call (.func 232) [(.tmp 60)])⟩,[]⟩,⟨⟨(some 62),none,(.fieldA 9 (.tmp 1))⟩,[]⟩,⟨⟨none,none,(.store 1 (.tmp 62) (.tmp 61))⟩,[]⟩]) (.seq (.ops [63,8] [⟨⟨(some 63),none,(.mkfunc (.func 233) [] [(.tmp 4)])⟩,[]⟩,⟨⟨(some 8),none,(.asg (.tmp 63))⟩,[]⟩]) (.seq (.seq (.ops [64,65,66,67] [⟨⟨(some 64),none,(.fieldA 9 (.tmp 1))⟩,[]⟩,⟨⟨(some 65),none,(.load1 (.tmp 64))⟩,[]⟩,⟨⟨(some 66),none,(.lenSl (.tmp 65))⟩,[]⟩,⟨⟨(some 67),none,(.mv (.const (.int .i64 0)))⟩,[]⟩]) (.block 2 (.loop (.seq (.ops [68] [⟨⟨(some 68),none,(.bin .lss 3 (.tmp 67) (.tmp 66))⟩,[]⟩]) (.seq (.cond (.tmp 68) .skip (.exit 2)) (.seq (.block 3 (.seq (.ops [69,9] [⟨⟨(some 69),none,(.mv (.tmp 67))⟩,[]⟩,⟨⟨(some 9),none,(.asg (.tmp 69))⟩,[]⟩]) (.seq (.ops [70,71,72,73,10] [⟨⟨(some 70),none,(.fieldA 9 (.tmp 1))⟩,[]⟩,⟨⟨(some 71),none,(.load1 (.tmp 70))⟩,[]⟩,⟨⟨(some 72),none,(.mv (.tmp 9))⟩,[]⟩,⟨⟨(some 73),none,(.idxSl 12 (.tmp 71) (.tmp 72))⟩,[]⟩,⟨⟨(some 10),none,(.asg (.tmp 73))⟩,[]⟩]) (.seq (.ops [74,75,76,77,78,79] [⟨⟨(some 74),none,(.mv (.tmp 10))⟩,[]⟩,⟨⟨(some 75),none,(.mv (.tmp 10))⟩,[]⟩,⟨⟨(some 76),none,(.nilck (.tmp 74))⟩,[]⟩,⟨⟨(some 77),none,(.fieldA 3 (.tmp 76))⟩,[]⟩,⟨⟨none,none,(.store 1 (.tmp 77) (.const (.int .i64 0)))⟩,[]⟩,⟨⟨(some 78),none,(.nilck (.tmp 75))⟩,[]⟩,⟨⟨(some 79),none,(.fieldA 11 (.tmp 78))⟩,[]⟩,⟨⟨none,none,(.store 1 (.tmp 79) (.const (.int .i64 (-1))))⟩,[]⟩]) (.seq (.seq (.ops [80,81,82,83,84] [⟨⟨(some 80),none,(.mv (.tmp 10))⟩,[]⟩,⟨⟨(some 81),none,(.nilck (.tmp 80))⟩,[]⟩,⟨⟨(some 82),none,(.fieldA 1 (.tmp 81))⟩,[]⟩,⟨⟨(some 83),none,(.load1 (.tmp 82))⟩,[]⟩,⟨⟨(some 84),none,(.bin .neq 9 (.tmp 83) (.const (.string ⟨⟨[]⟩⟩)))⟩,[]⟩]) (.cond (.tmp 84) (.ops [85,86,87,88,89,90,91,92,93] [⟨⟨(some 85),none,(.mv (.tmp 10))⟩,[]⟩,⟨⟨(some 86),none,(.mv (.tmp 5))⟩,[]⟩,⟨⟨(some 87),none,(.mv (.tmp 10))⟩,[]⟩,⟨⟨(some 88),none,(.nilck (.tmp 87))⟩,[]⟩,⟨⟨(some 89),none,(.fieldA 1 (.tmp 88))⟩,[]⟩,⟨⟨(some 90),none,(.load1 (.tmp 89))⟩,[]⟩,⟨⟨(some 91),none,(.call (.func 229) [(.tmp 86),(.tmp 90)])⟩,[]⟩,⟨⟨(some 92),none,(.nilck (.tmp 85))⟩,[]⟩,⟨⟨(some 93),none,(.fieldA 3 (.tmp 92))⟩,[]⟩,⟨⟨none,none,(.store 1 (.tmp 93) (.tmp 91))⟩,[]⟩]) .skip)) (.seq (.ops [94,95,96,97,98,99,100,101,102,103,104,105,106,107,108,109,110,111] [⟨⟨(some 94),none,(.mv (.tmp 10))⟩,[]⟩,⟨⟨(some 95),none,(.mv (.tmp 10))⟩,[]⟩,⟨⟨(some 96),none,(.mv (.tmp 8))⟩,[]⟩,⟨⟨(some 97),none,(.mv (.tmp 10))⟩,[]⟩,⟨⟨(some 98),none,(.nilck (.tmp 97))⟩,[]⟩,⟨⟨(some 99),none,(.fieldA 4 (.tmp 98))⟩,[]⟩,⟨⟨(some 100),none,(.load1 (.tmp 99))⟩,[]⟩,⟨⟨(some 102),none,(.mv (.tmp 8))⟩,[]⟩,⟨⟨(some 103),none,(.mv (.tmp 10))⟩,[]⟩,⟨⟨(some 104),none,(.nilck (.tmp 103))⟩,[]⟩,⟨⟨(some 105),none,(.fieldA 5 (.tmp 104))⟩,[]⟩,⟨⟨(some 106),none,(.load1 (.tmp 105))⟩,[]⟩,⟨⟨(some 101),none,(.call (.tmp 96) [(.tmp 100)])⟩,[⟨(some 106),none,(.load1 (.tmp 105))⟩]⟩,⟨⟨(some 107),none,(.call (.tmp 102) [(.tmp 106)])⟩,[]⟩,⟨⟨(some 108),none,(.nilck (.tmp 94))⟩,[]⟩,⟨⟨(some 109),none,(.fieldA 6 (.tmp 108))⟩,[]⟩,⟨⟨none,none,(.store 1 (.tmp 109) (.tmp 101))⟩,[]⟩,⟨⟨(some 110),none,(.nilck (.tmp 95))⟩,[]⟩,⟨⟨(some 111),none,(.fieldA 7 (.tmp 110))⟩,[]⟩,⟨⟨none,none,(.store 1 (.tmp 111) (.tmp 107))⟩,[]⟩]) (.seq (.ops [112,113,114,115,116] [⟨⟨(some 112),none,(.mv (.tmp 10))⟩,[]⟩,⟨⟨(some 113),none,(.nilck (.tmp 112))⟩,[]⟩,⟨⟨(some 114),none,(.fieldA 10 (.tmp 113))⟩,[]⟩,⟨⟨(some 115),none,(.load1 (.tmp 114))⟩,[]⟩,⟨⟨(some 116),none,(.bin .neq 9 (.tmp 115) (.const (.string ⟨⟨[]⟩⟩)))⟩,[]⟩]) (.cond (.tmp 116) (.ops [117,118,119,120,121,122,123,124,125] [⟨⟨(some 117),none,(.mv (.tmp 10))⟩,[]⟩,⟨⟨(some 118),none,(.mv (.tmp 6))⟩,[]⟩,⟨⟨(some 119),none,(.mv (.tmp 10))⟩,[]⟩,⟨⟨(some 120),none,(.nilck (.tmp 119))⟩,[]⟩,⟨⟨(some 121),none,(.fieldA 10 (.tmp 120))⟩,[]⟩,⟨⟨(some 122),none,(.load1 (.tmp 121))⟩,[]⟩,⟨⟨(some 123),none,(.call (.func 229) [(.tmp 118),(.tmp 122)])⟩,[]⟩,⟨⟨(some 124),none,(.nilck (.tmp 117))⟩,[]⟩,⟨⟨(some 125),none,(.fieldA 11 (.tmp 124))⟩,[]⟩,⟨⟨none,none,(.store 1 (.tmp 125) (.tmp 123))⟩,[]⟩]) .skip)))))))) (.ops [126,67] [⟨⟨(some 126),none,(.bin .add 3 (.tmp 67) (.const (.int .i64 1)))⟩,[]⟩,⟨⟨(some 67),none,(.mv (.tmp 126))⟩,[]⟩]))))))) (.seq (.ops [127] [⟨⟨(some 127),none,(.loadN 10 (.tmp 1))⟩,[]⟩,⟨⟨none,none,(.store 10 (.tmp 2) (.tmp 127))⟩,[]⟩,⟨⟨none,none,(.store 1 (.tmp 3) (.const (.int .i64 0)))⟩,[]⟩]) .ret)))))))))))))⟩
theorem f_rslv:enF Tryz.prog 182=some zJZ:=by kernel_rfl
theorem zAW(a b:ByteArray):(a.toList==b.toList)=decide (a=b):=by
 rw[ByteArray.toList_eq,ByteArray.toList_eq];by_cases h:a=b
 ·subst h;simp
 ·rw[decide_eq_false h];cases hb:a.data.toList==b.data.toList with
  |false=>rfl
  |true=>
   have:=eq_of_beq hb;exact absurd (ByteArray.ext (Array.ext' this)) h
abbrev zFv:List Value:=[.string ⟨⟨[]⟩⟩,.int .i64 0,.int .i64 0,.int .i64 0,.int .i64 0,.slice none 0 0,.slice none 0 0,.slice none 0 0,.slice none 0 0,.slice none 0 0]
theorem zLS{b2 b3:Nat}:FnD Tryz.prog (.func 218) [] [ptr' b2,ptr' b3] .returning [] [] (fun _:Unit=>.ok (.tuple ⟨[]⟩)) (fun _=>.returning) (fun _=>[]) (fun _=>[]) (fun _=>True):=by
 refine zP3 zIq f_rslv1 fun B w0=>?_;refine go ?_;refine zHk (v:=.nilIface) (m':=.returning) rfl ?_;refine go ?_;refine(d_p (v:=.bool false) rfl rfl (fun h=>by
  show(match zFo Tryz.prog .neq 20 (.tmp 4) (.const .nilIface) .nilIface .nilIface with|some v=>some (v,h)|none=>none)=_;rw[show zFo Tryz.prog .neq 20 (.tmp 4) (.const .nilIface) .nilIface .nilIface=some (.bool false)by kernel_rfl])).h ?_
 refine go ?_;exact zQK () (hv:=rfl) (hm:=rfl) (hp:=trivial)
theorem zLo{b2 b3:Nat}{e:Int}(he:e=160∨e=161):FnD Tryz.prog (.func 218) [] [ptr' b2,ptr' b3] (.panicking (zLF e)) [pt b2 (.cells zFv),pt b3 (.cells [.int .i64 0])] [] (fun _:Unit=>.ok (.tuple ⟨[]⟩)) (fun _=>.panicking [{v:=.iface 40 (.int .i64 e),recovered:=true}])
 (fun _=>[pt b2 (.cells zFv),pt b3 (.cells [.int .i64 e])]) (fun _=>[]) (fun _=>True):=by
 refine zP3 zIq f_rslv1 fun B w0=>?_;refine go ?_;refine zHk (v:=.iface 40 (.int .i64 e)) (m':=.panicking [{v:=.iface 40 (.int .i64 e),recovered:=true}]) rfl ?_;refine go ?_;refine(d_p (v:=.bool true) rfl rfl (fun h=>by
  show(match zFo Tryz.prog .neq 20 (.tmp 4) (.const .nilIface) (.iface 40 (.int .i64 e)) .nilIface with|some v=>some (v,h)|none=>none)=_;rcases he with rfl|rfl
  ·rw[show zFo Tryz.prog .neq 20 (.tmp 4) (.const .nilIface) (.iface 40 (.int .i64 160)) .nilIface=some (.bool true)by kernel_rfl]
  ·rw[show zFo Tryz.prog .neq 20 (.tmp 4) (.const .nilIface) (.iface 40 (.int .i64 161)) .nilIface=some (.bool true)by kernel_rfl])).h ?_
 refine go ?_;exact zQK () (hv:=rfl) (hm:=rfl) (hp:=trivial)
structure RsY where
 ok:Bool
 e:Int
 vc:Value
 vu:Value
abbrev rsV(d:Dcl)(vh vs vr:Value)(y:RsY):Value:=.tuple ⟨[.agg ⟨cond y.ok (zGB (Kd.rslv d) vh vs vr y.vc y.vu) zFv⟩,.int .i64 y.e]⟩
abbrev rsF(d:Dcl)(y:RsY):List zJ:=cond y.ok [fSl zAS y.vc (Kd.rslv d).clues,fSl zn y.vu (Kd.rslv d).rules] []
def RsP(d:Dcl)(y:RsY):Prop:=(y.ok=true→y.e=0∧zF2 d)∧(y.ok=false→y.e≠0∧¬zF2 d)
structure zJL(d:Dcl):Prop where
 syms:d.symbols.length≤4096
 regs:d.regions.length≤4096
 clus:d.clues.length≤4096
 ruls:d.rules.length≤4096
 rnames:∀r∈d.rules,r.names.length<9223372036854775808∧r.others.length<9223372036854775808
 holes:d.holes.length<9223372036854775808
 regl:∀r∈d.regions,r.lists.length<9223372036854775808∧∀l∈r.lists,l.length<9223372036854775808
section
variable {B:List Nat} {w0:Wd} {kl klr:List OA} {F:List zJ} {l:List (Nat×Value)} {b2 b3:Nat} {n:Nat}
theorem zDg{d:Dcl}{vh vs vr:Value}{e:Int}(he:e=160∨e=161)(hno:¬zF2 d)(h2:lk l 2=ptr' b2)(h3:lk l 3=ptr' b3)(hk:SelL [pt b2 (.cells zFv),pt b3 (.cells [.int .i64 0])] kl klr):
 R (fun h=>zJb Tryz.prog zJZ (zJJ B w0 (fun y=>.ok (rsV d vh vs vr y)) (fun _=>[]) (rsF d) (RsP d)) (.panic (zLF e)) (act n l [{target:=.fn (.func 218) ⟨[ptr' b2,ptr' b3]⟩,args:=⟨[]⟩}] none none) h) B w0 kl F:=by
 refine zE3 (m:=.panicking (zLF e)) ?_;refine zMC (klr:=klr) (kl2:=fun _=>[pt b2 (.cells zFv),pt b3 (.cells [.int .i64 e])]++klr) (F2:=fun _=>F) (zLo (b2:=b2) (b3:=b3) he) (fun y v _ _=>?_) (fun y ch _ hc=>by cases hc) (hk:=hk) (hF:=.nil) (hk2:=fun _=>AppR.app) (hF2:=fun _=>AppR.nil);show RL _ _ _ _ .returning _ _ _ _ _;refine zQI (klr:=[pt b2 (.cells zFv),pt b3 (.cells [.int .i64 e])]++klr) (vs:=[.agg ⟨zFv⟩,.int .i64 e]) ⟨false,e,.nilFunc,.nilFunc⟩ rfl ⟨(fun h=>by cases h),fun _=>⟨by rcases he with rfl|rfl<;>simp,hno⟩⟩ (hr:=?_) (hk:=.nil) (hF:=.nil);show RS l _ [.cellN 10 2,.cell1 3] _;exact .cellN h2 .here rfl (.cell1 h3 (.there .here) rfl .nil)
end
section
variable {B:List Nat} {w0:Wd} {kl klr:List OA} {F:List zJ} {l:List (Nat×Value)} {b2 b3:Nat} {n:Nat}
theorem zPz{d:Dcl}{vh vs vr:Value}{o:Out}{cs:List Value}{e:Int}(y:RsY)(ho:zCP o=some .returning)(hcs:cs=cond y.ok (zGB (Kd.rslv d) vh vs vr y.vc y.vu) zFv)(hl:cs.length=10)(hy:y.e=e)(hp:RsP d y)(hF:∀w,(∀f∈F,f.p w)→∀f∈rsF d y,f.p w)(h2:lk l 2=ptr' b2)(h3:lk l 3=ptr' b3)(hk:SelL [pt b2 (.cells cs),pt b3 (.cells [.int .i64 e])] kl klr):
 R (fun h=>zJb Tryz.prog zJZ (zJJ B w0 (fun y=>.ok (rsV d vh vs vr y)) (fun _=>[]) (rsF d) (RsP d)) o (act n l [{target:=.fn (.func 218) ⟨[ptr' b2,ptr' b3]⟩,args:=⟨[]⟩}] none none) h) B w0 kl F:=by
 refine zE3 (m:=.returning) ?_ ho;refine zMC (k1:=[]) (klr:=kl) (kl2:=fun _=>kl) (F2:=fun _=>F) (zLS (b2:=b2) (b3:=b3)) (fun _ v _ _=>?_) (fun _ ch _ hc=>by cases hc) (hk:=.nil) (hF:=.nil) (hk2:=fun _=>AppR.nil) (hF2:=fun _=>AppR.nil);show RL _ _ _ _ .returning _ _ _ _ _;intro w s;have s':St B w0 ([pt b2 (.cells cs),pt b3 (.cells [.int .i64 e])]++klr) (rsF d y) w:=by
  have:=s.selL hk;exact⟨this.agree,this.le,this.zold,this.own,hF w this.facts⟩
 refine zQI (F:=rsF d y) (klr:=[pt b2 (.cells cs),pt b3 (.cells [.int .i64 e])]++klr) (vs:=[.agg ⟨cs⟩,.int .i64 e]) y ?_ hp (hr:=?_) (hk:=.nil) (hF:=?_) w s'
 ·show Ret.ok (rsV d vh vs vr y)=_;unfold rsV;rw[← hcs,hy];rfl
 ·show RS l _ [.cellN 10 2,.cell1 3] _;exact .cellN h2 .here (by rw[zAG,zAR,List.drop_zero,if_pos (by omega),← hl,List.take_length]) (.cell1 h3 (.there .here) rfl .nil)
 ·have:∀k:List zJ,Sub k k:=fun k=>by
   have:=Sub.refl' k [];simpa using this
  exact this _
end
theorem zCk{X:List (Rul×zn.Y)}{k:Nat}(hk:k<X.length){q q':Rul×zn.Y}{j:Nat}{v:Value}(h:(zn.pat q.1 q.2).set j v=zn.pat q'.1 q'.2)(hj:j<12):(zk zn (X.set k q)).set (0+k*12+j) v=zk zn (X.set k q'):=by
 rw[Nat.zero_add];have:=zE9 (E:=zn) (xys:=X.set k q) (k:=k) (p:=q) (p':=q') (by rw[List.getElem?_set,if_pos rfl,if_pos hk]) h hj;rw[List.set_set]at this;exact this
theorem flat_at{X:List (Rul×zn.Y)}{k:Nat}(hk:k<X.length){q:Rul×zn.Y}{j:Nat}{u:Value}(h:(zn.pat q.1 q.2)[j]? =some u):(zk zn (X.set k q))[0+k*12+j]? =some u:=by
 rw[Nat.zero_add];exact zBE (E:=zn) (xys:=X.set k q) (k:=k) (by rw[List.getElem?_set,if_pos rfl,if_pos hk]) h
theorem zDz{X:List (Rul×zn.Y)}{k:Nat}(hk:k<X.length){q:Rul×zn.Y}{j:Nat}(hj:j<12):0+k*12+j<(zk zn (X.set k q)).length:=by
 rw[zCT,List.length_set];show 0+k*12+j<X.length*12;omega
theorem zLl{d:Dcl}{vh vs vr vc vu:Value}(hS:zJL d):FnC Tryz.prog (.func 182) [.agg ⟨zGB d vh vs vr vc vu⟩] [] [] (zLE d vh vs vr vc vu) (rsV d vh vs vr) (fun _=>[]) (rsF d) (RsP d):=by
 refine FnR.toC _ ?_ (fun _ _=>rfl);have hsl:=hS.syms;have hrl:=hS.regs;have hcl:=hS.clus;have hul:=hS.ruls;refine zEa zJZ f_rslv fun B w0=>?_;refine go ?_;intro b1 b2 b3;refine go ?_;refine zQr ?_;refine go ?_;refine if_d rfl (fun h1=>?_) (fun h1=>?_)
 ·refine go ?_;exact zPz (e:=2) (cs:=zFv) ⟨false,2,.nilFunc,.nilFunc⟩ rfl rfl rfl rfl ⟨(fun h=>by cases h),fun _=>⟨by simp,fun h=>by have:=h.syms;omega⟩⟩ (fun w _ f hf=>by cases hf) rfl rfl (by repeat (first|exact SelL.nil|(apply SelL.cons;(focus (repeat (first|exact Sel.here|apply Sel.there))))))
 have hsy:(zBv d).length≤16:=by show(d.symbols.map (·.name)).length≤16;rw[List.length_map];omega
 refine go ?_;refine zCU zCe (fun bs=>?_);refine go ?_;refine zA9 (zL5 (b:=bs) (start:=0) (kvs:=[]) hsl (by omega) List.nodup_nil) (fun y v hy e=>?_) (fun y ch hy e=>?_)
 rotate_left
 ·obtain⟨y,ns⟩:=y;cases y with
  |true=>cases e
  |false=>
   injection e with e;subst e;refine go ?_;exact zDg (e:=161) (.inr rfl) (fun h=>hy.2 rfl (by simpa[zBv]using h.symNd)) rfl rfl (by repeat (first|exact SelL.nil|(apply SelL.cons;(focus (repeat (first|exact Sel.here|apply Sel.there))))))
 obtain⟨y,ns⟩:=y;cases y with
 |false=>cases e
 |true=>
 injection e with e;subst e;have hns:ns=zBv d:=(hy.1 rfl).1;have hsn:(zBv d).Nodup:=by have:=(hy.1 rfl).2;simpa[zBv]using this
 clear hy;subst hns;dsimp only;rw[show([]:List (ByteArray×Value))++zAi _ 0=zAi _ 0 from rfl];refine zK (zD8 (b:=bs)) (h:=?_);refine go ?_;intro b4;refine go ?_;refine zCU zCe (fun bf=>?_);refine zA zO5 (next:=fun vg _=>?_);refine zA9 (zMB (b:=bf) (xs:=zFB) (start:=0) (kvs:=[]) (by decide) (by omega) List.nodup_nil) (fun y v hy e=>?_) (fun y ch hy e=>?_)
 rotate_left
 ·obtain⟨y,ns⟩:=y;cases y with
  |true=>cases e
  |false=>exact absurd (by decide) (hy.2 rfl)
 obtain⟨y,ns⟩:=y;cases y with
 |false=>cases e
 |true=>
 injection e with e;subst e;have hns:ns=zFB:=(hy.1 rfl).1;clear hy;subst hns;dsimp only;rw[show([]:List (ByteArray×Value))++zAi _ 0=zAi _ 0 from rfl];refine zA9 (zMq (b:=bf) (start:=8) (kvs:=zAi zFB 0) hrl (by omega) (by rw[zAP];decide)) (fun y v hy e=>?_) (fun y ch hy e=>?_)
 rotate_left
 ·obtain⟨y,ns⟩:=y;cases y with
  |true=>cases e
  |false=>
   injection e with e;subst e;refine go ?_;exact zDg (e:=161) (.inr rfl) (fun h=>hy.2 rfl (by rw[zAP];exact h.famNd)) rfl rfl (by repeat (first|exact SelL.nil|(apply SelL.cons;(focus (repeat (first|exact Sel.here|apply Sel.there))))))
 obtain⟨y,ns⟩:=y;cases y with
 |false=>cases e
 |true=>
 injection e with e;subst e;have hns:ns=d.regions.map Reg.name:=(hy.1 rfl).1;have hfn:(zBR d).Nodup:=by have:=(hy.1 rfl).2;rw[zAP]at this;exact this
 clear hy;subst hns;dsimp only;have hfe:zAi zFB 0++zAi (d.regions.map Reg.name) 8=zAi (zBR d) 0:=by
  unfold zBR;rw[zC2];rfl
 rw[hfe];clear hfe;refine zK (zD8 (b:=bf)) (h:=?_);refine go ?_;refine zCU zCe (fun bc=>?_);refine go ?_;refine zA9 (zL7 (b:=bc) (start:=0) (kvs:=[]) hcl (by omega) List.nodup_nil) (fun y v hy e=>?_) (fun y ch hy e=>?_)
 rotate_left
 ·obtain⟨y,ns⟩:=y;cases y with
  |true=>cases e
  |false=>
   injection e with e;subst e;refine go ?_;exact zDg (e:=161) (.inr rfl) (fun h=>hy.2 rfl (by simpa[zEd]using h.cluNd)) rfl rfl (by repeat (first|exact SelL.nil|(apply SelL.cons;(focus (repeat (first|exact Sel.here|apply Sel.there))))))
 obtain⟨y,ns⟩:=y;cases y with
 |false=>cases e
 |true=>
 injection e with e;subst e;have hns:ns=zEd d:=(hy.1 rfl).1;have hcn:(zEd d).Nodup:=by have:=(hy.1 rfl).2;simpa[zEd]using this
 clear hy;subst hns;dsimp only;rw[show([]:List (ByteArray×Value))++zAi _ 0=zAi _ 0 from rfl];refine zK (zD8 (b:=bc)) (h:=?_);refine go ?_;refine zI3 zAS vc (fun xc hxc=>?_);have hxl:xc.length=d.clues.length:=by rw[← hxc,List.length_map]
 refine zA (zNE (xys:=xc) (by omega)) (next:=fun v1 _=>?_);refine zJ5 (E:=zAS) (v:=v1) (xys:=xc) (fun a1 e1=>?_);subst e1;refine go ?_;let f1:Clu×zAS.Y→Clu×zAS.Y:=fun p=>(zR6 (zBR d) p.1,p.2)
 rw[show ar zAS (.slice a1 xc.length xc.length) xc=ar zAS (.slice a1 xc.length xc.length) (zY f1 0 xc)from rfl];refine zH (fun k=>xc.length - k) (fun k:Nat=>[(38,.int .i64 (k:Int))]) (fun k=>[ar zAS (.slice a1 xc.length xc.length) (zY f1 k xc)]) (fun _=>[]) (fun k=>k≤xc.length∧∀p∈xc.take k,p.1.on∈zBR d) 0 ⟨Nat.zero_le _,by simp⟩ (body:=?_);rintro k ⟨hk,hall⟩;refine go ?_;refine if_d rfl (fun h2=>?_) (fun h2=>?_)
 ·refine go ?_;refine zJU (E:=zAS) (xys:=zY f1 k xc) (by rw[zAD];omega) (fun bx fx hfx ev=>?_);injection ev with ea _ _;subst ea;refine go ?_;obtain⟨p,hp⟩:∃p,xc[k]? =some p:=⟨xc[k]'(by omega),List.getElem?_eq_getElem _⟩
  have hget:(zY f1 k xc)[k]? =some p:=by rw[zFb _ (by omega)];exact hp
  have hpd:p.1∈d.clues:=by rw[← hxc];exact List.mem_map_of_mem (List.mem_of_getElem? hp)
  refine zDw (o:=0+k*6+1) (cs:=zk zAS (zY f1 k xc)) (.string p.1.on) (by rw[Nat.zero_add];exact zBE (E:=zAS) (j:=1) hget rfl) ?_;refine zA9 (zGe (b:=bf) (s:=p.1.on) (kvs:=zAi (zBR d) 0)) (fun y v hy e=>?_) (fun y ch hy e=>?_)
  rotate_left
  ·have hm:p.1.on∉zBR d:=by
    intro h;rw[zA0 h]at hy;subst hy;cases e
   rw[zAI (by rw[zAP];exact hm)]at hy;subst hy;injection e with e;subst e;refine go ?_;exact zDg (e:=160) (.inl rfl) (fun h=>hm (h.cluOn p.1 hpd)) rfl rfl (by repeat (first|exact SelL.nil|(apply SelL.cons;(focus (repeat (first|exact Sel.here|apply Sel.there))))))
  have hm:p.1.on∈zBR d:=by
   by_cases h:p.1.on∈zBR d
   ·exact h
   ·rw[zAI (by rw[zAP];exact h)]at hy;subst hy;cases e
  rw[zA0 hm]at hy;subst hy;injection e with e;subst e;rw[Nat.zero_add];refine go ?_;refine zC4 (o:=0+k*6+2) (cs:=zk zAS (zY f1 k xc)) (cs':=zk zAS (zY f1 (k+1) xc)) (v:=.int .i64 ((posn p.1.on (zBR d):Nat):Int)) (by rw[Nat.zero_add,← zE5 f1 hp];exact zE9 (E:=zAS) (j:=2) (p':=f1 p) hget rfl (by decide)) (by rw[zCT,zAD];show 0+k*6+2<xc.length*6;omega) ?_;refine go ?_;refine zAL (b:=bx) (f:=fx) (m:=xc.length) zAS (xys:=zY f1 (k+1) xc) (by rw[zAD]) hfx ?_;refine zB (k+1) (by omega) ⟨by omega,fun q hq=>?_⟩;rw[List.take_add_one,hp]at hq;rcases List.mem_append.1 hq with h|h
  ·exact hall q h
  ·have:q=p:=by simpa using h
   rw[this];exact hm
 have hkl:k=xc.length:=by omega
 subst hkl;rw[List.take_length]at hall;have hcon:∀c∈d.clues,c.on∈zBR d:=by
  intro c hc;rw[← hxc]at hc;obtain⟨p,hp,rfl⟩:=List.mem_map.1 hc;exact hall p hp
 clear hall hk;rw[zFQ];refine go ?_;refine zCU zCe (fun bu=>?_);refine go ?_;refine zA9 (zLW (b:=bu) (start:=0) (kvs:=[]) hul (by omega) List.nodup_nil) (fun y v hy e=>?_) (fun y ch hy e=>?_)
 rotate_left
 ·obtain⟨y,ns⟩:=y;cases y with
  |true=>cases e
  |false=>
   injection e with e;subst e;refine go ?_;exact zDg (e:=161) (.inr rfl) (fun h=>hy.2 rfl (by simpa[zTk]using h.rulNd)) rfl rfl (by repeat (first|exact SelL.nil|(apply SelL.cons;(focus (repeat (first|exact Sel.here|apply Sel.there))))))
 obtain⟨y,ns⟩:=y;cases y with
 |false=>cases e
 |true=>
 injection e with e;subst e;have hrn:(zTk d).Nodup:=by have:=(hy.1 rfl).2;simpa[zTk]using this
 clear hy;dsimp only;refine zK (zD8 (b:=bu)) (h:=?_);refine go ?_;refine zI3 zn vu (fun xr hxr=>?_);have hxl2:xr.length=d.rules.length:=by rw[← hxr,List.length_map]
 refine zA (zMZ (xys:=xr) (by omega)) (next:=fun v2 _=>?_);refine zJ5 (E:=zn) (v:=v2) (xys:=xr) (fun a2 e2=>?_);subst e2;refine go ?_;refine zK (zN (b:=b4)) (h:=?_);refine go ?_;let f2:Rul×zn.Y→Rul×zn.Y:=fun p=>(zMI (zBv d) (zBR d) (zEd d) p.1,p.2)
 rw[show ar zn (.slice a2 xr.length xr.length) xr=ar zn (.slice a2 xr.length xr.length) (zY f2 0 xr)from rfl];refine zTw (E:=zn) (v:=vu) (xys:=xr) ?_;refine zH (fun k=>xr.length - k) (fun k:Nat=>[(67,.int .i64 (k:Int))]) (fun k=>[ar zn (.slice a2 xr.length xr.length) (zY f2 k xr)]) (fun _=>[]) (fun k=>k≤xr.length∧∀p∈xr.take k,zQ3 (zBv d) (zBR d) (zEd d) p.1) 0 ⟨Nat.zero_le _,by simp⟩ (body:=?_);rintro k ⟨hk,hall⟩;refine go ?_;refine if_d rfl (fun h2=>?_) (fun h2=>?_)
 ·refine go ?_;refine zJU (E:=zn) (xys:=zY f2 k xr) (by rw[zAD];omega) (fun by_ fy hfy ev=>?_);injection ev with ea _ _;subst ea;obtain⟨p,hp⟩:∃p,xr[k]? =some p:=⟨xr[k]'(by omega),List.getElem?_eq_getElem _⟩
  have hpm:=List.mem_of_getElem? hp;have hget:(zY f2 k xr)[k]? =some p:=by rw[zFb _ (by omega)];exact hp
  have hpd:p.1∈d.rules:=by rw[← hxr];exact List.mem_map_of_mem hpm
  have hfin:=zE5 f2 hp;obtain⟨r,v3,v4⟩:=p;have hrs:=hS.rnames r hpd;have hXl:k<(zY f2 k xr).length:=by rw[zAD];omega
  have hXl2:(zY f2 k xr).length=xr.length:=zAD _ _ _;have e0:zY f2 k xr=(zY f2 k xr).set k (r,v3,v4):=by
   apply List.ext_getElem?;intro i;rw[List.getElem?_set];by_cases hi:k=i
   ·subst hi;rw[if_pos rfl,if_pos hXl,hget]
   ·rw[if_neg hi]
  refine zX (fSl zC0 v3 r.names) (fun w h=>h (fAll zn xr) (List.mem_cons_self ..) _ hpm _ (List.mem_cons_self ..)) ?_;refine zX (fSl zC0 v4 r.others) (fun w h=>h (fAll zn xr) (List.mem_cons_of_mem _ (List.mem_cons_self ..)) _ hpm _ (List.mem_cons_of_mem _ (List.mem_cons_self ..))) ?_;rw[e0];rw[← e0];generalize hX:zY f2 k xr=X at hXl hXl2 e0 hfin;rw[e0];refine go ?_;refine zC4 (o:=0+k*12+3) (cs:=zk zn (X.set k (r,v3,v4))) (cs':=zk zn (X.set k ({r with family:=0},v3,v4))) (v:=.int .i64 0) (zCk hXl rfl (by omega)) (zDz hXl (by omega)) ?_;refine go ?_;refine zC4 (o:=0+k*12+11) (cs:=zk zn (X.set k ({r with family:=0},v3,v4))) (cs':=zk zn (X.set k ({r with family:=0,clue:= -1},v3,v4))) (v:=.int .i64 (-1)) (zCk hXl rfl (by omega)) (zDz hXl (by omega)) ?_;refine go ?_;refine zDw (o:=0+k*12+1) (cs:=zk zn (X.set k ({r with family:=0,clue:= -1},v3,v4))) (.string r.on) (flat_at hXl rfl) ?_;refine go ?_;refine zJF (klr:=[pt b1 (.cells [.string d.name,.int .i64 d.version,.int .i64 d.shape,.int .i64 d.w,.int .i64 d.h,vh,vs,vr,.slice a1 xc.length xc.length,.slice (some ⟨by_,0,some fy⟩) xr.length xr.length]),ar zAS (.slice a1 xc.length xc.length) (xc.map f1),pt b3 (.cells [.int .i64 0]),pt b2 (.cells zFv)]) [] (fun _:Unit=>[]) (fun _=>[pt by_ (.cells (zk zn (X.set k ({r with family:=if r.on=⟨⟨[]⟩⟩then 0 else(posn r.on (zBR d):Int),clue:= -1},v3,v4))))]) (fun _=>[]) (fun _=>r.on=⟨⟨[]⟩⟩∨r.on∈zBR d) (hx:=?_) (hy:=?_)
  ·refine zJK (p:=r.on=⟨⟨[]⟩⟩) (by show Value.bool _=_;rw[zAW]) (fun h3=>?_) (fun h3=>?_)
   ·refine go ?_;refine zDw (o:=0+k*12+1) (cs:=zk zn (X.set k ({r with family:=0,clue:= -1},v3,v4))) (.string r.on) (flat_at hXl rfl) ?_;refine zA9 (zGe (b:=bf) (s:=r.on) (kvs:=zAi (zBR d) 0)) (fun y v hy e=>?_) (fun y ch hy e=>?_)
    rotate_left
    ·have hm:r.on∉zBR d:=by
      intro h;rw[zA0 h]at hy;subst hy;cases e
     rw[zAI (by rw[zAP];exact hm)]at hy;subst hy;injection e with e;subst e;refine go ?_;refine zVI ?_;refine go ?_;exact zDg (e:=160) (.inl rfl) (fun h=>(h.rul r hpd).on.elim h3 hm) rfl rfl (by repeat (first|exact SelL.nil|(apply SelL.cons;(focus (repeat (first|exact Sel.here|apply Sel.there))))))
    have hm:r.on∈zBR d:=by
     by_cases h:r.on∈zBR d
     ·exact h
     ·rw[zAI (by rw[zAP];exact h)]at hy;subst hy;cases e
    rw[zA0 hm]at hy;subst hy;injection e with e;subst e;rw[Nat.zero_add];refine go ?_;refine zC4 (o:=0+k*12+3) (cs:=zk zn (X.set k ({r with family:=0,clue:= -1},v3,v4))) (cs':=zk zn (X.set k ({r with family:=if r.on=⟨⟨[]⟩⟩then 0 else(posn r.on (zBR d):Int),clue:= -1},v3,v4))) (v:=.int .i64 ((posn r.on (zBR d):Nat):Int)) (by rw[if_neg h3];exact zCk hXl rfl (by omega)) (zDz hXl (by omega)) ?_;refine go ?_;exact zBt () (.inr hm)
   ·refine go ?_;rw[show({r with family:=0,clue:= -1}:Rul)={r with family:=if r.on=⟨⟨[]⟩⟩then 0 else(posn r.on (zBR d):Int),clue:= -1}by rw[if_pos h3]];exact zBt () (.inl h3)
  intro _ hon;generalize hfm:(if r.on=⟨⟨[]⟩⟩then 0 else(posn r.on (zBR d):Int))=fm;refine go ?_;refine zDw (o:=0+k*12+4) (cs:=zk zn (X.set k ({r with family:=fm,clue:= -1},v3,v4))) v3 (flat_at hXl rfl) ?_;refine go ?_;refine zDw (o:=0+k*12+5) (cs:=zk zn (X.set k ({r with family:=fm,clue:= -1},v3,v4))) v4 (flat_at hXl rfl) ?_;refine go ?_;refine zA9 (zLh (b4:=b4) (bs:=bs) (vl:=v3) (syms:=zBv d) (l:=r.names) hsy hrs.1) (fun y v hy e=>?_) (fun y ch hy e=>?_)
   (hs:=fun y v _ _=>same_load (b:=by_) (o:=0+k*12+5) (cs:=zk zn (X.set k ({r with family:=fm,clue:= -1},v3,v4))) (v:=v4) rfl (by repeat (first|exact Sel.here|apply Sel.there)) (by rw[lget_eq];exact flat_at hXl rfl) rfl same_nil)
  rotate_left
  ·cases y with
   |true=>cases e
   |false=>
    injection e with e;subst e;refine go ?_;exact zDg (e:=160) (.inl rfl) (fun h=>hy.2 rfl (h.rul r hpd).names) rfl rfl (by repeat (first|exact SelL.nil|(apply SelL.cons;(focus (repeat (first|exact Sel.here|apply Sel.there))))))
  cases y with
  |false=>cases e
  |true=>
  injection e with e;subst e;have hm_names:=hy.1 rfl;clear hy;refine go ?_;refine go ?_;refine zA9 (zLh (b4:=b4) (bs:=bs) (vl:=v4) (syms:=zBv d) (l:=r.others) hsy hrs.2) (fun y v hy e=>?_) (fun y ch hy e=>?_)
  rotate_left
  ·cases y with
   |true=>cases e
   |false=>
    injection e with e;subst e;refine go ?_;exact zDg (e:=160) (.inl rfl) (fun h=>hy.2 rfl (h.rul r hpd).others) rfl rfl (by repeat (first|exact SelL.nil|(apply SelL.cons;(focus (repeat (first|exact Sel.here|apply Sel.there))))))
  cases y with
  |false=>cases e
  |true=>
  injection e with e;subst e;have hm_others:=hy.1 rfl;clear hy;refine go ?_;refine zC4 (o:=0+k*12+6) (cs:=zk zn (X.set k ({r with family:=fm,clue:= -1},v3,v4))) (cs':=zk zn (X.set k ({r with family:=fm,clue:= -1,set:=(setN (zBv d) r.names:Int)},v3,v4))) (v:=.int .i64 (setN (zBv d) r.names:Int)) (zCk hXl rfl (by omega)) (zDz hXl (by omega)) ?_;refine go ?_;refine zC4 (o:=0+k*12+7) (cs:=zk zn (X.set k ({r with family:=fm,clue:= -1,set:=(setN (zBv d) r.names:Int)},v3,v4))) (cs':=zk zn (X.set k ({r with family:=fm,clue:= -1,set:=(setN (zBv d) r.names:Int),other:=(setN (zBv d) r.others:Int)},v3,v4))) (v:=.int .i64 (setN (zBv d) r.others:Int)) (zCk hXl rfl (by omega)) (zDz hXl (by omega)) ?_;refine go ?_;refine zDw (o:=0+k*12+10) (cs:=zk zn (X.set k ({r with family:=fm,clue:= -1,set:=(setN (zBv d) r.names:Int),other:=(setN (zBv d) r.others:Int)},v3,v4))) (.string r.by_) (flat_at hXl rfl) ?_;refine go ?_;have hnext:(r.by_=⟨⟨[]⟩⟩∨r.by_∈zEd d)→∀q∈xr.take (k+1),zQ3 (zBv d) (zBR d) (zEd d) q.1:=by
   intro hby q hq;rw[List.take_add_one,hp]at hq;rcases List.mem_append.1 hq with h|h
   ·exact hall q h
   ·have:q=(r,v3,v4):=List.mem_singleton.1 (show q∈[(r,v3,v4)]from h);rw[this];exact⟨hon,hm_names,hm_others,hby⟩
  refine zJK (p:=r.by_=⟨⟨[]⟩⟩) (by show Value.bool _=_;rw[zAW]) (fun h3=>?_) (fun h3=>?_)
  ·refine go ?_;refine zDw (o:=0+k*12+10) (cs:=zk zn (X.set k ({r with family:=fm,clue:= -1,set:=(setN (zBv d) r.names:Int),other:=(setN (zBv d) r.others:Int)},v3,v4))) (.string r.by_) (flat_at hXl rfl) ?_;refine zA9 (zGe (b:=bc) (s:=r.by_) (kvs:=zAi (zEd d) 0)) (fun y v hy e=>?_) (fun y ch hy e=>?_)
   rotate_left
   ·have hm:r.by_∉zEd d:=by
     intro h;rw[zA0 h]at hy;subst hy;cases e
    rw[zAI (by rw[zAP];exact hm)]at hy;subst hy;injection e with e;subst e;refine go ?_;exact zDg (e:=160) (.inl rfl) (fun h=>(h.rul r hpd).by_.elim h3 hm) rfl rfl (by repeat (first|exact SelL.nil|(apply SelL.cons;(focus (repeat (first|exact Sel.here|apply Sel.there))))))
   have hm:r.by_∈zEd d:=by
    by_cases h:r.by_∈zEd d
    ·exact h
    ·rw[zAI (by rw[zAP];exact h)]at hy;subst hy;cases e
   rw[zA0 hm]at hy;subst hy;injection e with e;subst e;rw[Nat.zero_add];refine go ?_;refine zC4 (o:=0+k*12+11) (cs:=zk zn (X.set k ({r with family:=fm,clue:= -1,set:=(setN (zBv d) r.names:Int),other:=(setN (zBv d) r.others:Int)},v3,v4))) (cs':=zk zn (X.set k (f2 (r,v3,v4)))) (v:=.int .i64 ((posn r.by_ (zEd d):Nat):Int)) (zCk hXl (by show _=zCG (zMI (zBv d) (zBR d) (zEd d) r) v3 v4;unfold zMI;rw[if_neg h3,hfm];rfl) (by omega)) (zDz hXl (by omega)) ?_;refine go ?_;rw[hfin];refine zAL (b:=by_) (f:=fy) (m:=xr.length) zn (xys:=zY f2 (k+1) xr) (by rw[zAD]) hfy ?_;exact zB (k+1) (by omega) ⟨by omega,hnext (.inr hm)⟩
  ·refine go ?_;rw[show X.set k (({r with family:=fm,clue:= -1,set:=(setN (zBv d) r.names:Int),other:=(setN (zBv d) r.others:Int)}:Rul),v3,v4)=zY f2 (k+1) xr by
    rw[← hfin];congr 1;show _=(zMI (zBv d) (zBR d) (zEd d) r,v3,v4)
    unfold zMI;rw[if_pos h3,hfm];rfl]
   refine zAL (b:=by_) (f:=fy) (m:=xr.length) zn (xys:=zY f2 (k+1) xr) (by rw[zAD]) hfy ?_;exact zB (k+1) (by omega) ⟨by omega,hnext (.inl h3)⟩
 have hkl:k=xr.length:=by omega
 subst hkl;rw[List.take_length]at hall;rw[zFQ];refine zGs (E:=zAS) (v:=.slice a1 xc.length xc.length) (xys:=xc.map f1) ?_ (fun w h p hp f hf=>by cases hf);refine zGs (E:=zn) (v:=.slice a2 xr.length xr.length) (xys:=xr.map f2) ?_ (fun w h p hp f hf=>by
  obtain⟨q,hq,rfl⟩:=List.mem_map.1 hp;exact h (fAll zn xr) (List.mem_cons_of_mem _ (List.mem_cons_of_mem _ (List.mem_cons_self ..))) q hq f hf)
 refine go ?_;refine zPz (e:=0) ⟨true,0,.slice a1 xc.length xc.length,.slice a2 xr.length xr.length⟩ rfl (by rfl) rfl rfl ⟨fun _=>⟨rfl,⟨by omega,hsn,hfn,hcn,hcon,hrn,fun r hr=>?_⟩⟩,fun h=>by cases h⟩ (fun w h f hf=>?_) rfl rfl (by repeat (first|exact SelL.nil|(apply SelL.cons;(focus (repeat (first|exact Sel.here|apply Sel.there))))))
 ·rw[← hxr]at hr;obtain⟨p,hp,rfl⟩:=List.mem_map.1 hr;exact hall p hp
 ·have ec:(xc.map f1).map (·.1)=(Kd.rslv d).clues:=by
   show _=d.clues.map (zR6 (zBR d));rw[← hxc,List.map_map,List.map_map];rfl
  have er:(xr.map f2).map (·.1)=(Kd.rslv d).rules:=by
   show _=d.rules.map (zMI (zBv d) (zBR d) (zEd d));rw[← hxr,List.map_map,List.map_map];rfl
  rw[ec,er]at h;have hf:f∈[fSl zAS (.slice a1 xc.length xc.length) (Kd.rslv d).clues,fSl zn (.slice a2 xr.length xr.length) (Kd.rslv d).rules]:=hf;rcases List.mem_cons.1 hf with rfl|hf
  ·exact h _ (by simp)
  ·rw[List.mem_singleton.1 hf];exact h _ (by simp)
end Go.Proofs.YtpkieeggilkagaaGreat
