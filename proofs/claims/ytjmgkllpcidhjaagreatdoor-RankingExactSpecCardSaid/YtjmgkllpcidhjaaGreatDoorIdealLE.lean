/-
  The ideal machine, 57: loops over functions, seen from all states of a kind; functions that leave collected ends behind.
-/
import Derived.Test.YtjmgkllpcidhjaaGreatDoorIdealKE
set_option linter.all false
namespace Go.Ideal
variable {P:Program}
section
variable {B:List Nat} {w0:Wd} {kl kl' cZ:List OA} {F:List aH} {K:KO} {n:Nat} {l:List (Nat×Value)} {D:List Deferred} {pm:Option FrameMode} {ro:Option Nat}
inductive vD:List OA->List Deferred->List OA->Prop
 |nil {kl:List OA}:vD kl [] kl
 |cons {kl kl' lD:List OA} {r:Nat} {args:Array Value} {D:List Deferred} (h:ak (pt r (.ig true)) kl kl') (t:vD kl' D lD):vD kl ({target:=.collected r,args}::D) lD
theorem vD.leave{cf:dS}{ts:T Value}{Kr:iM->IH->Prop}:∀{D:List Deferred} {kl lD:List OA},vD kl D lD->(∀w',St B w0 lD F w'->∃v,nM cf.results ts w'.h=some v/\Kr (.ok v) w'.h)->∀w,St B w0 kl F w->LEAVE P cf ts D .returning w.h Kr
 |_,_,_,.nil,hk,w,s=>by
  obtain⟨v,h1,h2⟩:=hk w s;exact .ret v h1 h2
 |_,_,_,.cons (r:=r) h t,hk,w,s=>by
  have s1:=s.fC h;refine .coll (by intro e;cases e) r s1.get.1 ?_;exact vD.leave t hk _ (s1.write (o':=.ig false)).tail
end
end Go.Ideal
namespace Go.Ideal
variable {P:Program}
theorem Sub.app{α:Type}:∀{k1 k2 l:List α},Sub k1 l->Sub k2 l->Sub (k1++k2) l
 |_,_,_,.nil,h=>h
 |_,_,_,.cons h h1,h2=>.cons h (h1.app h2)
section
variable {B:List Nat} {w0:Wd} {kl kl' cZ:List OA} {F:List aH} {K:KO} {n:Nat} {l:List (Nat×Value)} {D:List Deferred} {pm:Option FrameMode} {ro:Option Nat}
end
end Go.Ideal
namespace Go.Ideal
variable {P:Program} {ρ:Operand->Value}
end Go.Ideal
namespace Go.Ideal
variable {P:Program}
theorem nX{ρ:Operand->Value}{x y:Operand}{a b:Int}(hx:ρ x=.int .i64 a)(hy:ρ y=.int .i64 b):Pu P ρ (.qz true [x,y]) (.int .i64 (max a b)):=λh=>by
 have e:gM ρ [x,y]=[.int .i64 a,.int .i64 b]:=by rw[nP];simp[hx,hy]
 simp only[ae.run,e,nJ,cond];by_cases hb:b<=a
 ·rw[kD,gL hb,Int.max_eq_left hb]
 ·have:leZ b a=false:=by rw[kD,jS hb]
  rw[this,Int.max_eq_right (by omega)]
theorem vF{ρ:Operand->Value}{x y:Operand}{a b:Int}(hx:ρ x=.int .i64 a)(hy:ρ y=.int .i64 b):Pu P ρ (.qz false [x,y]) (.int .i64 (min a b)):=λh=>by
 have e:gM ρ [x,y]=[.int .i64 a,.int .i64 b]:=by rw[nP];simp[hx,hy]
 simp only[ae.run,e,nJ,cond];by_cases hb:a<=b
 ·rw[kD,gL hb,Int.min_eq_left hb]
 ·have:leZ a b=false:=by rw[kD,jS hb]
  rw[this,Int.min_eq_right (by omega)]
section
variable {B:List Nat} {w0:Wd} {kl kl' cZ:List OA} {F:List aH} {K:KO} {n:Nat} {l:List (Nat×Value)} {D:List Deferred} {pm:Option FrameMode} {ro:Option Nat}
theorem bM{Q:IH->Prop}(g:aH)(hg:∀w:Wd,(∀f∈F,f.p w)->g.p w)(h:R Q B w0 kl (g::F)):R Q B w0 kl F:=λw s=>
 h w ⟨s.agree,s.le,s.dW,s.own,λf hf=>by
  rcases bz.1 hf with rfl|hf
  ·exact hg w s.facts
  ·exact s.facts f hf⟩
theorem tC{α:Type}(E:Enc α){ds:List Tmp}{rest:List aK}{d:Nat}{g:Option (Tmp×Bool)}{e:TypeId}{size bytes b':Nat}{s x:Operand}{v:Value}{xs:List α}(a:α)(y:E.Y){cs:List Value}{k1 k2:List OA}
 (hm:(xs.length+1)*bytes<=1073741824/\(xs.length+1)*size<=1073741824/\xs.length+1<=1073741824)
 (next:∀ad,R (λh=>ax P ds rest (act n ((d,.slice ad (xs.length+1) (xs.length+1))::l) D pm ro) h K) B w0 (ap E (.slice ad (xs.length+1) (xs.length+1)) (xs++[a])::k2) F)
 (hn:Nat.blt d n=true:=by rfl) (hg:bn l g=true:=by rfl)
 (hs:ev l s=v:=by conv=>lhs;whnf) (hx:ev l x=.slice (some ⟨b',0,some 0⟩) 1 1:=by rfl) (hk:ak (ap E v xs) kl k1:=by exact gP) (hc:ak (pt b' (.cells cs)) k1 k2:=by exact gP) (hp:cs=E.pat a y:=by rfl) (hF:Sub (E.fs a y) F:=by exact vg) (hz:E.n=size:=by rfl):
 R (λh=>ax P ds (⟨⟨some d,g,.append e size bytes s x⟩,[]⟩::rest) (act n l D pm ro) h K) B w0 kl F:=
 (Rv hn hg hs hx hk hc hp hF hz hm).h λv' w st=>by
   obtain⟨S,⟨S1,S2,q,_⟩,_⟩:=st.own;obtain⟨ad,e⟩:=I9 q;rw[fE,List.length_singleton]at e;subst e;exact next ad w st
section
variable {ds:List Tmp} {rest:List aK} {d:Nat} {g:Option (Tmp×Bool)}
theorem EC{e:TypeId}{size bytes:Nat}{zero:List Value}{x y:Operand}(m:Nat)(hm:m*bytes<=1073741824/\m*size<=1073741824/\m<=1073741824)
 (next:∀b,R (λh=>ax P ds rest (act n ((d,.slice (some ⟨b,0,some 0⟩) m m)::l) D pm ro) h K) B w0 (pt b (.cells (zeros zero m))::kl) F)
 (hx:ev l x=.int .i64 (m:Int):=by rfl) (hy:ev l y=.int .i64 (m:Int):=by rfl) (hn:Nat.blt d n=true:=by rfl) (hg:bn l g=true:=by rfl):
 R (λh=>ax P ds (⟨⟨some d,g,.qx e size bytes zero x y⟩,[]⟩::rest) (act n l D pm ro) h K) B w0 kl F:=(Rh hn hg hx hy hm).h next
theorem vG{x y:Operand}{b o:Nat}{cs cs':List Value}{v:Value}(hs:cs.set o v=cs')(ho:o<cs.length)
 (next:R (λh=>ax P ds rest (act n l D pm ro) h K) B w0 (pt b (.cells cs')::kl') F)
 (hx:ev l x=.pointer (some ⟨b,o,none⟩):=by rfl) (hy:ev l y=v:=by rfl) (hv:cellsOf v=some [v]:=by rfl) (hk:ak (pt b (.cells cs)) kl kl':=by exact gP) (hg:bn l g=true:=by rfl):
 R (λh=>ax P ds (⟨⟨none,g,.store 1 x y⟩,[]⟩::rest) (act n l D pm ro) h K) B w0 kl F:=by subst hs;exact(Ro hg hx hy hv hk ho).h next
theorem jW{x:Operand}{b o:Nat}{cs:List Value}(v:Value)(hv:cs[o]? =some v)
 (next:R (λh=>ax P ds rest (act n ((d,v)::l) D pm ro) h K) B w0 kl F)
 (hx:ev l x=.pointer (some ⟨b,o,none⟩):=by rfl) (hk:ak (pt b (.cells cs)) kl kl':=by exact gP) (hn:Nat.blt d n=true:=by rfl) (hg:bn l g=true:=by rfl):
 R (λh=>ax P ds (⟨⟨some d,g,.aB x⟩,[]⟩::rest) (act n l D pm ro) h K) B w0 kl F:=(Rp hn hg hx hk hv).h next
end
end
