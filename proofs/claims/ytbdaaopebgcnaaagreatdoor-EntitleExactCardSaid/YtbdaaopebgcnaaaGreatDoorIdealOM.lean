/-
  The ideal machine, 72: conversions between integers, shifts of unsigned ones; arrays of numbers as keys.
-/
import Derived.Test.YtbdaaopebgcnaaaGreatDoorIdealNM
set_option linter.all false
namespace Go.Ideal
variable {P:Program}
theorem AV{ρ:Operand->Value}{src dst:TypeId}{x:Operand}{kk k:IntKind}{n m:Int}{ds:TypeDesc}(hs:P.underlying src=some ds)(hd:P.underlying dst=some (.int k))(hx:ρ x=.int kk n)(hw:k.wrap n=m):Pu P ρ (.conv src dst x) (.int k m):=λh=>by
 have h1:dz P (convert src dst (.int kk n))=some (.int k m):=by
  unfold convert;rw[gu,rE hs];simp only[gJ];rw[gu,rE hd];simp only[gJ];rw[<- hw];rfl
 simp only[au.run,hx,ji,h1];rfl
theorem ab9{a:Nat}(h:a<18446744073709551616):IntKind.u64.wrap (a:Int)=a:=by
 show(let m:=(a:Int)%(2^64:Int);if false&&m>=(2^63:Int)then m - (2^64:Int)else m)=_;simp only[wH,qJ,if_false];rw[Int.emod_eq_of_lt (by omega) (by simpa using(by omega:(a:Int)<18446744073709551616))]
theorem RJ{α:Type}[DecidableEq α]{aQ:α->Value}{kt:TypeId}{d:TypeDesc}(hu:P.underlying kt=some d)(hn:∀a b,Instr.sameNow d (aQ a) (aQ b)=none)(he:∀a b,dz P (Op.equal kt (aQ a) (aQ b))=some (decide (a=b)))(a:α)(aJ:List (α×Value))(es:List MapEntry)(h:nD aQ aJ es):qP P kt (aQ a) es=some (nC a aJ 0):=by
 have acd:∀(aJ:List (α×Value)) (es:List MapEntry) (i:Nat),nD aQ aJ es->dz P (Instr.findAsking kt (aQ a) es i)=some (nC a aJ i):=by
  intro aJ;induction aJ with
  |nil=>
   intro es i h;cases es with
   |nil=>rfl
   |cons e es=>cases h
  |cons p aJ ih=>
   intro es i h;obtain⟨e,es',rfl,h1,h2,h3⟩:=LA h;unfold Instr.findAsking;rw[gu,h1,he];simp only[gJ];unfold nC;by_cases hab:a=p.1
   ·rw[eP hab,if_pos hab,h2];rfl
   ·rw[fB hab,if_neg hab];exact ih es' (i+1) h3
 unfold qP Instr.findKey;rw[gu,rE hu];simp only[gJ];cases aJ with
 |nil=>
  cases es with
  |nil=>rfl
  |cons e es=>cases h
 |cons p aJ=>
  have h':=h;obtain⟨e,es',rfl,h1,h2,h3⟩:=LA h;have:Instr.findNow d (aQ a) (e::es') 0=none:=by
   show(match Instr.sameNow d (aQ a) e.key with
   |some true=>some (some (0,e.val))
   |some false=>Instr.findNow d (aQ a) es' 1
   |none=>none)=_
   rw[h1,hn]
  rw[this];exact acd _ _ _ h'
end Go.Ideal
namespace Go.Ideal
section
variable {P:Program}
variable {ds:List Tmp} {rest:List aW} {n:Nat} {l:List (Nat×Value)} {D:List Deferred} {pm:Option FrameMode} {ro:Option Nat} {h:IH} {K:KO} {d:Nat} {g:Option (Tmp×Bool)}
theorem AX{op:au}{v:Value}{h':IH}{re:List eZ}(hn:Nat.blt d n=true)(hg:bH l g=true)(hr:op.run P (ev l) h=some (v,h'))
 (hsm:∀q∈re,∃u h2,q.op.run P (ev ((d,v)::l)) h'=some (u,h2)/\∀d',q.dst=some d'->lk ((d,v)::l) d'=u)
 (next:aA P ds rest (act n ((d,v)::l) D pm ro) h' K):aA P ds (⟨⟨some d,g,op⟩,re⟩::rest) (act n l D pm ro) h K:=
 .iP (rA hg) v h' (by rw[kg];exact hr) (λq hq _=>by
  obtain⟨u,h2,e1,e2⟩:=hsm q hq;rw[lg hn];exact⟨u,h2,by rw[kg];exact e1,λd' hd=>by rw[<- e2 d' hd];exact sZ _ _⟩) (by rw[lg hn];exact next)
theorem LM{re:List eZ}{e:TypeId}{size bytes b o m k:Nat}{f:Option Nat}{s x:Operand}{old xs:List Value}(hn:Nat.blt d n=true)(hg:bH l g=true)
 (hs:ev l s=.slice (some ⟨b,o,f⟩) m m) (hx:kY (ev l x)=some (k+1)) (hxs:j5 size (k+1) (ev l x) h=some xs) (hold:h.dV b o (m*size)=some old)
 (hf:f=some 0\/f=some size) (hm:(m+(k+1))*bytes<=1073741824/\(m+(k+1))*size<=1073741824/\m+(k+1)<=1073741824)
 (hsm:∀h',xe h h' b (.cells (old++xs))->∀q∈re,∃u h2,q.op.run P (ev ((d,.slice (some ⟨h.next,0,some size⟩) (m+(k+1)) (m+(k+1)))::l)) h'=some (u,h2)/\∀d',q.dst=some d'->lk ((d,.slice (some ⟨h.next,0,some size⟩) (m+(k+1)) (m+(k+1)))::l) d'=u)
 (next:∀h',xe h h' b (.cells (old++xs))->aA P ds rest (act n ((d,.slice (some ⟨h.next,0,some size⟩) (m+(k+1)) (m+(k+1)))::l) D pm ro) h' K):
 aA P ds (⟨⟨some d,g,.append e size bytes s x⟩,re⟩::rest) (act n l D pm ro) h K:=by
 have hle:∀{a b:Nat},a<=b->Nat.ble a b=true:=λh=>by rw[nM];exact h
 have hlt:Nat.ble (m+(k+1)) m=false:=by
  cases hb:Nat.ble (m+(k+1)) m with
  |false=>rfl
  |true=>have:=kW hb;omega
 have hc:(Nat.ble (Nat.mul (m+(k+1)) bytes) small&&Nat.ble (Nat.mul (m+(k+1)) size) small&&Nat.ble (m+(k+1)) small)=true:=by
  rw[hle (show Nat.mul (m+(k+1)) bytes<=small from hm.1),hle (show Nat.mul (m+(k+1)) size<=small from hm.2.1),hle (show m+(k+1)<=small from hm.2.2)];rfl
 have hrun:∃h',(au.append e size bytes s x).run P (ev l) h=some (.slice (some ⟨h.next,0,some size⟩) (m+(k+1)) (m+(k+1)),h')/\xe h h' b (.cells (old++xs)):=by
  have yK:um size (k+1) (ev l x) h=some xs:=hxs;simp only[au.run,hx,yK,hs,nR];have e1:j5 size m (.slice (some ⟨b,o,f⟩) m m) h=some old:=hold;show∃h',(cond (Nat.ble (Nat.mul (m+(k+1)) bytes) small&&Nat.ble (Nat.mul (m+(k+1)) size) small&&Nat.ble (m+(k+1)) small) _ _)=_/\_;rw[hc];show∃h',(cond (Nat.ble (m+(k+1)) m) _ _)=_/\_;rw[hlt];simp only[cond,e1];rcases hf with rfl|rfl
  ·refine⟨_,rfl,?_⟩;exact⟨rfl,λi hi _=>by rw[IH.ik,if_neg (by omega)],⟨uR _,by rw[IH.ik,if_pos rfl,iI]⟩,λ_=>rfl⟩
  ·cases size with
   |zero=>
    refine⟨_,rfl,?_⟩;exact⟨rfl,λi hi _=>by rw[IH.ik,if_neg (by omega)],⟨uR _,by rw[IH.ik,if_pos rfl,iI]⟩,λ_=>rfl⟩
   |succ j=>
    have hj:Nat.beq (Nat.succ j) (j+1)=true:=wF _;refine⟨(h.kill b).new (.cells (old++xs)),?_,?_⟩
    ·show cond (Nat.beq (Nat.succ j) (j+1)) _ _=_;rw[hj,iI];rfl
    ·exact⟨rfl,λi hi hb=>by rw[IH.ik,if_neg (by show i≠h.next;omega),IH.qX,if_neg hb],⟨uR _,by rw[IH.ik];exact if_pos rfl⟩,λhl=>by rw[IH.JK,IH.yC];omega⟩
 obtain⟨h',hr,hM⟩:=hrun;exact AX hn hg hr (hsm h' hM) (next h' hM)
theorem RN{re:List eZ}{e:TypeId}{size bytes k c:Nat}{s x:Operand}{xs:List Value}(hn:Nat.blt d n=true)(hg:bH l g=true)
 (hs:ev l s=.slice none 0 0) (hx:kY (ev l x)=some (k+1)) (hxs:j5 size (k+1) (ev l x) h=some xs)
 (hm:(k+1)*bytes<=1073741824/\(k+1)*size<=1073741824/\(k+1)<=1073741824)
 (hsm:∀h',Agree h h'->At h' h.next (.cells xs)->h'.next=h.next+1->∀q∈re,∃u h2,q.op.run P (ev ((d,.slice (some ⟨h.next,0,some size⟩) (k+1) (k+1))::l)) h'=some (u,h2)/\∀d',q.dst=some d'->lk ((d,.slice (some ⟨h.next,0,some size⟩) (k+1) (k+1))::l) d'=u)
 (next:∀h',Agree h h'->At h' h.next (.cells xs)->h'.next=h.next+1->aA P ds rest (act n ((d,.slice (some ⟨h.next,0,some size⟩) (k+1) (k+1))::l) D pm ro) h' K):
 aA P ds (⟨⟨some d,g,.append e size bytes s x⟩,re⟩::rest) (act n l D pm ro) h K:=by
 have hle:∀{a b:Nat},a<=b->Nat.ble a b=true:=λh=>by rw[nM];exact h
 have e0:Nat.add 0 (k+1)=k+1:=bG _;refine AX hn hg (h':=h.new (.cells xs)) ?_ (hsm _ (KZ _ _) (K3 _ _) rfl) (next _ (KZ _ _) (K3 _ _) rfl);have yK:um size (k+1) (ev l x) h=some xs:=hxs;simp only[au.run,hx,yK,hs,nR,e0];rw[hle (show Nat.mul (k+1) bytes<=small from hm.1),hle (show Nat.mul (k+1) size<=small from hm.2.1),hle (show k+1<=small from hm.2.2)];have e1:j5 size 0 (.slice none 0 0) h=some []:=by
  show(match (0:Nat)with|0=>some ([]:List Value)|_=>none)=_;rfl
 have e2:Nat.ble (k+1) 0=false:=rfl;simp only[BJ,cond_true,e2,cond_false,e1,iI,dI]
end
section
variable {P:Program}
variable {ρ:Operand->Value}
variable {B:List Nat} {w0:Wd} {kl kl':List OA} {F:List aD} {a:aN} {K:KO}
variable {y:bV} {i j m0:Nat} {I:Nat->aN->IH->Prop} {ch:List PanicEntry}
variable {B:List Nat} {w0:Wd} {kl kl':List OA} {F:List aD} {K:KO} {ds:List Tmp} {rest:List aW} {n:Nat} {l:List (Nat×Value)} {D:List Deferred} {pm:Option FrameMode} {ro:Option Nat} {d:Nat} {g:Option (Tmp×Bool)}
end
section
variable {P:Program} {B:List Nat} {w0:Wd} {kl kl' bE:List OA} {F:List aD} {K:KO} {n:Nat} {l:List (Nat×Value)} {D:List Deferred} {pm:Option FrameMode} {ro:Option Nat}
end
end Go.Ideal
namespace Go.Ideal
variable {P:Program}
section
variable {α κ:Type} [DecidableEq κ] {aQ:κ->Value} {E:Enc α}
variable {B:List Nat} {w0:Wd} {kl kl' bE k1 k2:List OA} {F:List aD} {Q:IH->Prop} {b:Nat} {m:List (κ×List α)}
end
end Go.Ideal
namespace Go.Ideal
variable {P:Program} {B:List Nat} {w0:Wd} {kl kl' bE:List OA} {F:List aD} {K:KO} {ds:List Tmp} {rest:List aW} {n:Nat} {l:List (Nat×Value)} {D:List Deferred} {pm:Option FrameMode} {ro:Option Nat} {d:Nat} {g:Option (Tmp×Bool)}
end Go.Ideal
namespace Go.Ideal
variable {P:Program} {B:List Nat} {w0:Wd} {kl kl' bE k1 k2:List OA} {F:List aD} {Q:IH->Prop}
section
variable {β:Type} (A:Value->β->OA)
end
theorem RO{A A':OA}(e:A=A')(h:R Q B w0 (A'::kl') F)(hk:ai A kl kl':=by exact gQ):R Q B w0 kl F:=by
 subst e;exact λw s=>h w (s.fC hk)
end Go.Ideal
namespace Go.Ideal
variable {P:Program}
def LP{α:Type}(P:Program)(vals:α->List Value)(fe:α->List aD)(fn:Fn)(first cap:List Value)(F:List aD)(X:List α->Prop):Prop:=
 ∀(S:Type) (inv:S->List OA) (ok:List α->S->Prop) (step:S->α->S×Bool) (s0:S) (xy:Fn) (y1 y2:List Value) (F':List aD),ok [] s0->
  (∀vs s x rest,ok vs s->X (vs++x::rest)->(step s x).2=true->ok (vs++[x]) (step s x).1)->
  (∀vs s x rest,ok vs s->X (vs++x::rest)->aX P xy (y1++vals x) y2 (inv s) (fe x++F') (λ_:Unit=>.bool (step s x).2) (λ_=>inv (step s x).1) (λ_=>[]) (λ_=>True))->
  aX P fn (first++[.func xy ⟨y1⟩ ⟨y2⟩]) cap (inv s0) (F++F') (λ_:List α=>.tuple ⟨[]⟩) (λxs=>inv (gz step s0 xs)) (λ_=>[]) X
theorem aX.facts{Y:Type}{fn:Fn}{args cap:List Value}{kl:List OA}{F F2:List aD}{val:Y->Value}{kl':Y->List OA}{fs:Y->List aD}{pr:Y->Prop}(h:aX P fn args cap kl F val kl' fs pr)(hF:∀f∈F,f∈F2):aX P fn args cap kl F2 val kl' fs pr:=
 λB w s=>h B w ⟨s.agree,s.le,s.fw,s.own,λf hf=>s.facts f (hF f hf)⟩
section
variable {B:List Nat} {w0:Wd} {kl kl' bE:List OA} {F:List aD} {K:KO} {n:Nat} {l:List (Nat×Value)} {D:List Deferred} {pm:Option FrameMode} {ro:Option Nat}
theorem ace{S α Z:Type}{f:Operand}{ps:List Tmp}{assign body:bV}{fn:Fn}{first captured:List Value}{vals:α->List Value}{fe:α->List aD}{F1:List aD}{X:List α->Prop}(step:S->α->S×Out)(inv:S->List OA)(ok:List α->S->Prop)(s0:S)(h0:ok [] s0)
 (hok:∀vs s x rest,ok vs s->X (vs++x::rest)->(step s x).2=.normal->ok (vs++[x]) (step s x).1) (hit:LP P vals fe fn first captured F1 X)
 (hf:ev l f=.func fn ⟨first⟩ ⟨captured⟩) (hps:ps.all (λp=>Nat.blt p n)=true) (hlen:∀x,ps.length=(vals x).length) (hk:aI (inv s0) kl bE) (hF:Sub F1 F) (gY:∀s x,yL (step s x).2)
 (l3:α->Z->List (Nat×Value)) (k3:α->Z->List OA)
 (ha:∀(s:S) (x:α) (lo:Nat) (o:di) B w0,R (λh=>EV P assign (act n ((ps.zip (vals x)).reverse++l) [] none (some lo)) h (AU B w0 n (l3 x) lo o (λz=>k3 x z++inv s) (fe x++F))) B w0 (pt lo o::inv s) (fe x++F))
 (hb:∀(vs:List α) (s:S) (x:α) (rest:List α) (z:Z) (lo:Nat) (L:lT) B w0,ok vs s->X (vs++x::rest)->R (λh=>EV P body (act n (l3 x z) [] none (some lo)) h (yM B w0 lo L (λ_:Unit=>(step s x).2) (λ_=>inv (step s x).1) (λ_=>[]) (λ_=>True))) B w0 (pt lo (.loop (uB L))::(k3 x z++inv s)) (fe x++F))
 (next:∀r xs,X xs->R (λh=>K (iL step s0 xs).2 (act n l ({target:=.collected r,args:= #[]}::D) pm none) h) B w0 (inv (iL step s0 xs).1++(pt r (.gM true)::bE)) F):
 R (λh=>EV P (.rangeFunc f ps assign body) (act n l D pm none) h K) B w0 kl F:=by
 refine Q9 (Y:=List α) (k1:=inv s0) (F1:=F1++F) (GG:=λ_=>.tuple ⟨[]⟩) (out:=λxs=>(iL step s0 xs).2) (k1':=λxs=>inv (iL step s0 xs).1) (fs:=λ_=>[]) (pr:=X) hf ?_ hk (hF.app (Sub.refl' F [])) (λr y hy=>next r y hy);intro lo r;have:=hit (S×Out) (λso=>pt lo (.loop (ku ⟨.ready,none,fJ l,n,ps,assign,body,r⟩ so.2))::inv so.1) (λvs so=>so.2=.normal/\ok vs so.1) (λso x=>(step so.1 x,kP (step so.1 x).2)) (s0,.normal) (.yield lo) [] [] F ⟨rfl,h0⟩
  (λvs so x rest ho hx h=>by
    have h:kP (step so.1 x).2=true:=h;have hn:(step so.1 x).2=.normal:=by
     cases e:(step so.1 x).2 with
     |normal=>rfl
     |_=>rw[e]at h;cases h
    exact⟨hn,hok vs so.1 x rest ho.2 hx hn⟩)
  (λvs so x rest ho hx=>by
    obtain⟨s,o⟩:=so;obtain⟨hn,ho⟩:=ho;have hn:o=.normal:=hn;subst hn;exact Ry (Y:=Unit) (L:=⟨.ready,none,fJ l,n,ps,assign,body,r⟩) (args:=vals x) (k1:=inv s) (out:=λ_=>(step s x).2) (k1':=λ_=>inv (step s x).1) (fs:=λ_=>[]) (pr:=λ_=>True) l (l3 x) (λz=>k3 x z++inv s) rfl rfl hps (hlen x)
     (λB w0=>ha s x lo _ B w0) (λz B w0=>hb vs s x rest z lo _ B w0 ho hx))
 have e:(λxs:List α=>pt lo (.loop (ku ⟨.ready,none,fJ l,n,ps,assign,body,r⟩ (gz (λ(so:S×Out) x=>(step so.1 x,kP (step so.1 x).2)) (s0,.normal) xs).2))::inv (gz (λ(so:S×Out) x=>(step so.1 x,kP (step so.1 x).2)) (s0,.normal) xs).1)=λxs=>pt lo (.loop (ku ⟨.ready,none,fJ l,n,ps,assign,body,r⟩ (iL step s0 xs).2))::inv (iL step s0 xs).1:=by
  funext xs
  rw[Ls]
 have h2:aX P fn (first++[.func (.yield lo) ⟨[]⟩ ⟨[]⟩]) captured (pt lo (.loop ⟨.ready,none,fJ l,n,ps,assign,body,r⟩)::inv s0) (F1++F) (λ_:List α=>.tuple ⟨[]⟩) (λxs=>pt lo (.loop (ku ⟨.ready,none,fJ l,n,ps,assign,body,r⟩ (gz (λ(so:S×Out) x=>(step so.1 x,kP (step so.1 x).2)) (s0,.normal) xs).2))::inv (gz (λ(so:S×Out) x=>(step so.1 x,kP (step so.1 x).2)) (s0,.normal) xs).1) (λ_=>[]) X:=this;rw[e]at h2;exact h2
theorem acf{S α Z:Type}{f:Operand}{ps:List Tmp}{assign body:bV}{fn:Fn}{first captured:List Value}{vals:α->List Value}{fe:α->List aD}{F1:List aD}{X:List α->Prop}(step:S->α->S×Out)(inv:S->List OA)(ok:List α->S->Prop)(s0:S)(l3:α->Z->List (Nat×Value))(k3:α->Z->List OA)(h0:ok [] s0)
 (hok:∀vs s x rest,ok vs s->X (vs++x::rest)->(step s x).2=.normal->ok (vs++[x]) (step s x).1) (hit:LP P vals fe fn first captured F1 X)
 (ha:∀(s:S) (x:α) (lo:Nat) (o:di) B w0,R (λh=>EV P assign (act n ((ps.zip (vals x)).reverse++l) [] none (some lo)) h (AU B w0 n (l3 x) lo o (λz=>k3 x z++inv s) (fe x++F))) B w0 (pt lo o::inv s) (fe x++F))
 (hb:∀(vs:List α) (s:S) (x:α) (rest:List α) (z:Z) (lo:Nat) (L:lT) B w0,ok vs s->X (vs++x::rest)->R (λh=>EV P body (act n (l3 x z) [] none (some lo)) h (yM B w0 lo L (λ_:Unit=>(step s x).2) (λ_=>inv (step s x).1) (λ_=>[]) (λ_=>True))) B w0 (pt lo (.loop (uB L))::(k3 x z++inv s)) (fe x++F))
 (next:∀r xs,X xs->R (λh=>K (iL step s0 xs).2 (act n l ({target:=.collected r,args:= #[]}::D) pm none) h) B w0 (inv (iL step s0 xs).1++(pt r (.gM true)::bE)) F)
 (gY:∀s x,yL (step s x).2)
 (hf:ev l f=.func fn ⟨first⟩ ⟨captured⟩:=by rfl) (hps:ps.all (λp=>Nat.blt p n)=true:=by rfl) (hlen:∀x,ps.length=(vals x).length:=by intro _;rfl)
 (hk:aI (inv s0) kl bE:=by exact pI) (hF:Sub F1 F:=by exact nZ):
 R (λh=>EV P (.rangeFunc f ps assign body) (act n l D pm none) h K) B w0 kl F:=
 ace step inv ok s0 h0 hok hit hf hps hlen hk hF gY l3 k3 ha hb next
end
section
variable {B:List Nat} {w0:Wd} {kl:List OA} {F:List aD}
end
end Go.Ideal
namespace Go.Ideal
variable {P:Program} {B:List Nat} {w0:Wd} {kl kl' bE:List OA} {F:List aD} {K:KO} {ds:List Tmp} {rest:List aW} {n:Nat} {l:List (Nat×Value)} {D:List Deferred} {pm:Option FrameMode} {ro:Option Nat} {d:Nat} {g:Option (Tmp×Bool)}
theorem acg{e:TypeId}{size bytes:Nat}{zero:List Value}{s x:Operand}(m:Nat)(h0:0<m)(hm:m*bytes<=1073741824/\m*size<=1073741824/\m<=1073741824)
 (next:∀b,R (λh=>aA P ds rest (act n ((d,.slice (some ⟨b,0,some size⟩) m m)::l) D pm ro) h K) B w0 (pt b (.cells (zeros zero m))::kl) F)
 (hs:ev l s=.slice none 0 0:=by rfl) (hx:ev l x=.int .i64 (m:Int):=by rfl) (hn:Nat.blt d n=true:=by rfl) (hg:bH l g=true:=by rfl):
 R (λh=>aA P ds (⟨⟨some d,g,.zF e size bytes zero s x⟩,[]⟩::rest) (act n l D pm ro) h K) B w0 kl F:=λw st=>by
 have hle:∀{a b:Nat},a<=b->Nat.ble a b=true:=λh=>by rw[nM];exact h
 refine iQ hn hg (v:=.slice (some ⟨w.h.next,0,some size⟩) m m) (h':=w.h.new (.cells (zeros zero m))) ?_ (next w.h.next (w.new _) (st.new _));obtain⟨k,rfl⟩:∃k,m=k+1:=⟨m - 1,by omega⟩
 have hx':ev l x=.int .i64 (.ofNat (k+1)):=hx;simp only[au.run,hx',hs];have e1:(Nat.ble (Nat.mul (k+1) bytes) small&&Nat.ble (Nat.mul (k+1) size) small&&Nat.ble (k+1) small)=true:=by
  rw[hle (show Nat.mul (k+1) bytes<=small from hm.1),hle (show Nat.mul (k+1) size<=small from hm.2.1),hle (show k+1<=small from hm.2.2)];rfl
 rw[e1];rfl
theorem G9{cs1 cs2 xs:List Value}(h:xs.length<=cs2.length):gW (cs1++cs2) cs1.length xs=some (cs1++(xs++cs2.drop xs.length)):=by
 obtain⟨r,hr⟩:=GX (cs1++cs2) cs1.length xs (by rw[dN];omega);obtain⟨h1,h2,h3⟩:=Fg hr;rw[hr];congr 1;apply kz;intro j;rw[h3 j];by_cases c1:j<cs1.length
 ·rw[if_neg (by omega),jF c1,jF c1]
 ·by_cases c2:j<cs1.length+xs.length
  ·rw[if_pos ⟨by omega,c2⟩,lM (by omega),jF (by omega)]
  ·rw[if_neg (by omega),lM (by omega),lM (by omega),lM (by omega),jf];congr 1;omega
theorem He{α:Type}{E:Enc α}{v:Value}{aa:List (α×E.Y)}{w:Wd}(h:(qo E v aa).p w):kY v=some aa.length/\um E.n aa.length v w.h=some (aP E aa):=by
 rcases h with⟨rfl,a,c,rfl,_⟩|⟨i,o,f,c,cells,⟨e1,hc⟩,q2,q3⟩
 ·exact⟨rfl,rfl⟩
 subst e1;refine⟨rfl,?_⟩;by_cases hne:aa=[]
 ·subst hne;rfl
 obtain⟨k,hk'⟩:∃k,aa.length=k+1:=⟨aa.length - 1,by have:=uh.2 hne;omega⟩
 have hfl:=rH aa;have hcells:∀j,j<aa.length*E.n->cells[o+j]? =(aP E aa)[j]?:=λj hj=>by
  have hn0:0<E.n:=by
   rcases BG E.n with h0|h0
   ·rw[h0]at hj;omega
   ·exact h0
  have hd:j/E.n<aa.length:=by rw[OE hn0];exact hj
  have hmod:=uU j hn0;have hpk:=bB hd;have hu:(E.pat (aa[j/E.n]).1 (aa[j/E.n]).2)[j%E.n]? =some ((E.pat (aa[j/E.n]).1 (aa[j/E.n]).2)[j%E.n]'(by rw[E.len];exact hmod)):=bB _;have h1:=(q3 (j/E.n) _ hpk).1 (j%E.n) _ hu;have h2:=yP hpk hu;have xh:j/E.n*E.n+j%E.n=j:=by rw[zo];exact Nat.div_add_mod j E.n
  rw[kX,xh]at h1;rw[xh]at h2;rw[h1,h2]
 have hlen:o+aa.length*E.n<=cells.length\/aa.length*E.n=0:=by
  rcases BG (aa.length*E.n)with h0|h0
  ·exact .inr h0
  ·left;have h1:=hcells (aa.length*E.n - 1) (by omega);have hx0:(aP E aa)[aa.length*E.n - 1]? =some ((aP E aa)[aa.length*E.n - 1]'(by omega)):=bB _;rw[hx0]at h1;have:=(dU.1 h1).1;omega
 have hread:w.h.dV i o (aa.length*E.n)=some (aP E aa)\/(aa.length*E.n=0):=by
  rcases hlen with hlen|hlen
  ·left;rw[q2.cells.dV,jO,jP,if_pos (by rw[iZ];omega)];congr 1;apply kz;intro j;rw[qN];by_cases hj:j<aa.length*E.n
   ·rw[if_pos hj,jf];exact hcells j hj
   ·rw[if_neg hj,jg (by omega)]
  ·exact .inr hlen
 have hread:w.h.dV i o (aa.length*E.n)=some (aP E aa):=by
  rcases hread with h|h
  ·exact h
  ·have hf0:aP E aa=[]:=qM.1 (by omega);rw[h,q2.cells.dV,jP,if_pos (cu _),hf0];rfl
 rw[hk']at hread⊢;exact hread
theorem ach{α:Type}{e:TypeId}{size bytes b m cap:Nat}{f:Option Nat}{s x:Operand}{v:Value}(E:Enc α)(aa:List (α×E.Y))(cs1 cs2:List Value)(h1:cs1.length=m*E.n)(h2:aa.length*E.n<=cs2.length)(hc:m+aa.length<=cap)
 (hm:(m+aa.length)*bytes<=1073741824/\(m+aa.length)*size<=1073741824/\(m+aa.length)<=1073741824)
 (next:R (λh=>aA P ds rest (act n ((d,.slice (some ⟨b,0,f⟩) (m+aa.length) cap)::l) D pm ro) h K) B w0 (pt b (.cells (cs1++(aP E aa++cs2.drop (aa.length*E.n))))::kl') F)
 (hs:ev l s=.slice (some ⟨b,0,f⟩) m cap:=by rfl) (hx:ev l x=v:=by conv=>lhs;whnf) (hf:qo E v aa∈F:=by exact nA) (hz:E.n=size:=by rfl) (hk:ai (pt b (.cells (cs1++cs2))) kl kl':=by exact gQ) (hn:Nat.blt d n=true:=by rfl) (hg:bH l g=true:=by rfl):
 R (λh=>aA P ds (⟨⟨some d,g,.append e size bytes s x⟩,[]⟩::rest) (act n l D pm ro) h K) B w0 kl F:=λw st=>by
 subst hz;have hle:∀{a b:Nat},a<=b->Nat.ble a b=true:=λh=>by rw[nM];exact h
 have st1:=st.fC hk;obtain⟨r1,r2⟩:=He (st.facts _ hf);have hfl:=rH aa;have hlv:gW (cs1++cs2) cs1.length (aP E aa)=some (cs1++(aP E aa++cs2.drop (aa.length*E.n))):=by
  rw[G9 (by omega),hfl]
 refine iQ hn hg (v:=.slice (some ⟨b,0,f⟩) (m+aa.length) cap) (h':=w.h.set b (.cells (cs1++(aP E aa++cs2.drop (aa.length*E.n))))) ?_ (next ⟨w.h.set b _,w.z,λi hi=>w.iR i hi⟩ st1.write);have e1:w.h.storeAt b (Nat.add 0 (Nat.mul m E.n)) (aP E aa)=some (w.h.set b (.cells (cs1++(aP E aa++cs2.drop (aa.length*E.n))))):=by
  unfold IH.storeAt;simp only[st1.get.1];rw[show Nat.add 0 (Nat.mul m E.n)=cs1.length by rw[h1];exact bG _,hlv]
 simp only[au.run,hx,hs,r1,r2,nR];show cond (Nat.ble (Nat.mul (m+aa.length) bytes) small&&Nat.ble (Nat.mul (m+aa.length) E.n) small&&Nat.ble (m+aa.length) small) (cond (Nat.ble (m+aa.length) cap) (match w.h.storeAt b (Nat.add 0 (Nat.mul m E.n)) (aP E aa)with|some h=>some (Value.slice (some ⟨b,0,f⟩) (m+aa.length) cap,h)|none=>none) _) none=_;rw[hle (show Nat.mul (m+aa.length) bytes<=small from hm.1),hle (show Nat.mul (m+aa.length) E.n<=small from hm.2.1),hle (show m+aa.length<=small from hm.2.2),hle hc,e1];rfl
theorem aci{ρ:Operand->Value}{x hi:Operand}{b m c k:Nat}(hx:ρ x=.slice (some ⟨b,0,some (k+1)⟩) m c)(hh:ρ hi=.int .i64 (0:Int)):Pu P ρ (.nQ (k+1) x none (some hi) none) (.slice (some ⟨b,0,some (k+1)⟩) 0 c):=λh=>by
 simp only[au.run,hx];show(match bounds? m c none (some (ρ hi)) none with|some (l,hh,m)=>cond (Nat.beq (Nat.succ k) (k+1)) (some (Value.slice (some ⟨b,Nat.add 0 (Nat.mul l (k+1)),some (Nat.succ k)⟩) (Nat.sub hh l) (Nat.sub m l),h)) none|none=>none)=_;rw[hh];have e1:bounds? m c none (some (.int .i64 (0:Int))) none=some (0,0,c):=rfl;rw[e1];show cond (Nat.beq (Nat.succ k) (k+1)) (some (Value.slice (some ⟨b,Nat.add 0 (Nat.mul 0 (k+1)),some (Nat.succ k)⟩) (Nat.sub 0 0) (Nat.sub c 0),h)) none=_;rw[show Nat.beq (Nat.succ k) (k+1)=true from wF _,show Nat.mul 0 (k+1)=0 from oQ _];rfl
theorem RP{ρ:Operand->Value}{x hi:Operand}{k c:Nat}(hx:ρ x=.slice none 0 c)(hh:ρ hi=.int .i64 (0:Int)):Pu P ρ (.nQ k x none (some hi) none) (.slice none 0 c):=λh=>by
 simp only[au.run,hx];show(match bounds? 0 c none (some (ρ hi)) none with|some (l,hh,m)=>some (Value.slice none (Nat.sub hh l) (Nat.sub m l),h)|none=>none)=_;rw[hh];have e1:bounds? 0 c none (some (.int .i64 (0:Int))) none=some (0,0,c):=rfl;rw[e1];rfl
theorem acj{ρ:Operand->Value}{s x:Operand}{e:TypeId}{size bytes c:Nat}{a:Option Addr}(hs:ρ s=.slice none 0 0)(hx:ρ x=.slice a 0 c):Pu P ρ (.append e size bytes s x) (.slice none 0 0):=λh=>by
 simp only[au.run,hx,hs];show nR size bytes (.slice none 0 0) 0 [] h=_;unfold nR;have h0:∀m,Nat.mul (Nat.add 0 0) m=0:=λm=>oQ m;show cond (Nat.ble (Nat.mul (Nat.add 0 0) bytes) small&&Nat.ble (Nat.mul (Nat.add 0 0) size) small&&Nat.ble (Nat.add 0 0) small) (cond (Nat.ble (Nat.add 0 0) 0) (some (Value.slice none (Nat.add 0 0) 0,h)) _) none=_;rw[h0,h0];rfl
theorem RQ{ρ:Operand->Value}{x:Operand}(hx:ρ x=.slice none 0 0):Pu P ρ (.BU x) (.int .i64 0):=λh=>by
 simp only[au.run,hx];rfl
end Go.Ideal
namespace Go.Ideal
open Go.RowKit Go.WideShapes Go.ChangeShapes
variable {P:Program}
theorem ack(nX:P.follows .mixedOrders=true){f:FuncId}(fn:Func)(hfn:P.funcs[f]? =some fn)(hbody:fn.body.isNone=false)(hname:(fn.name== "runtime.NumGoroutine")=false){args args':List Value}{L:Lay}{w:World}{v:Value}(acm:jy P (iV L))
 (hL:∀(i:Nat) g cs,L[i]? =some (some g,some cs)->Aj L w g cs) (hargs:aH (iV L) args args') (hv:bM v=true)
 (hc:CALL P ⟨.func f,args,[],none⟩ (jd L) (λr pm h'=>pm=none/\r=.ok v/\Agree (jd L) h')):
 Calls P f ⟨args'⟩ w (λe w'=>e=.returned v/\Below w.heap.size w w'):=by
 have hM:=KQ nX hc;have hW:WR P (iV L) (jd L) w:=aam hL;obtain⟨nx,F0,n1,n2,n3⟩:=hM (iV L) w (.func f) args' [] acm hW (.func f) hargs .nil;have hnx:nx=.enter f ⟨args'⟩:=by
  have hcall:(callFunc f ⟨args'⟩).run P w=.ok (.enter f ⟨args'⟩) w:=by
   simp only[callFunc,bQ,run_program,bT,hfn,hname,hbody,qJ,if_false,dD]
  have e:(⟨args'⟩:Array Value)++(⟨[]⟩:Array Value)=⟨args'⟩:=by apply Array.ext';simp
  have n1:(invoke (.fn (.func f) ⟨[]⟩) ⟨args'⟩).run P w=.ok nx w:=n1;simp only[invoke,e]at n1;rw[hcall]at n1;cases n1;rfl
 subst hnx;have uz:F0=Frame.enter P f ⟨args'⟩ .normal:=by
  have:entry P .normal (.enter f ⟨args'⟩)=some (Frame.enter P f ⟨args'⟩ .normal):=rfl;have n2:entry P .normal (.enter f ⟨args'⟩)=some F0:=n2;rw[this]at n2;exact(Option.some.inj n2).symm
 subst uz;intro cs;obtain⟨r,pm',h',β',w',r',cs1,q1,q2,q3,q4,q5,q6⟩:=n3 cs (by intro m hm;cases hm);obtain⟨hp,rfl,hag⟩:=q1;cases q5;cases q4 with
 | @ok v v' mK=>
   have:=mK.lU hv;subst this;rcases q6 with⟨f1,a1,F1,e1,e2,e3,e4,e5⟩|⟨⟨_,l,e1⟩,_⟩
   ·cases e1;refine⟨.returned v',w',F1,⟨rfl,?_⟩,e2,e3,?_⟩
    ·refine⟨q3.os,q3.tape,q3.output,q3.size,λk hk=>?_⟩;by_cases hx:∀i g,iV L i=some g->(jd L).get i≠none->g.b≠k
     ·exact q3.keep k hk hx
     ·have hx:∃i g,iV L i=some g/\(jd L).get i≠none/\g.b=k:=by
       apply Classical.byContradiction;intro hc;exact hx λi g hi hg hb=>hc ⟨i,g,hi,hg,hb⟩
      obtain⟨i,g,hi,hg,rfl⟩:=hx;have hin:=hW.dom i g hi;exact q3.nU i g (by rw[hag.low (aG _)];exact hin) hin hi hg hk
    ·obtain⟨t1,t2,fn,t3,t4⟩:=e5;exact⟨t1,t2,e4,fn,t3,t4⟩
   ·cases e1
section
variable {H:Type} {enc:TypeId×Value->H} {W:World}
end
def AY(n:Nat):aD:=⟨λw=>n<=w.h.next,λa h=>dB h a.next⟩
theorem acn{f:FuncId}{v:Value}{n:Nat}(hs:∀h:IH,n<=h.next->CALL P ⟨.func f,[],[],none⟩ h (λr pm h'=>pm=none/\r=.ok v/\h'=h)):gy P f [] [AY n] v:=λB w s=>
 .wX _ (hs w.h (s.facts (AY n) (cz.2 rfl))) (by rintro r pm h' ⟨rfl,rfl,rfl⟩;exact⟨rfl,w,(),rfl,⟨s.agree,s.le,s.fw,s.own,λf h=>by cases h⟩,rfl,trivial⟩)
end Go.Ideal
namespace Go.Ideal
variable {P:Program}
def vN:Value->Bool
 | .tuple ⟨c::cs⟩=>bM c&&cs.all bM
 | .tuple _=>false
 |v=>bM v
theorem aH.RU{β:ax}:∀{l:List Value},l.all bM=true->aH β l l
 |[],_=>.nil
 |v::l,h=>by
  rw[yg,fD]at h;exact .cons (VR.free h.1) (aH.RU h.2)
theorem aH.Hf{β:ax}:∀{l l':List Value},aH β l l'->l.all bM=true->l'=l
 |_,_,.nil,_=>rfl
 |_,_,.cons h1 h2,h=>by
  rw[yg,fD]at h;rw[h1.lU h.1,aH.Hf h2 h.2]
theorem VR.RV{β:ax}{v:Value}(h:vN v=true):VR β v v:=by
 unfold vN at h;split at h
 ·rename_i c cs;exact .tuple (aH.RU (by rw[yg];exact h))
 ·cases h
 ·exact VR.free h
theorem VR.aco{β:ax}{v v':Value}(hr:VR β v v')(h:vN v=true):v'=v:=by
 unfold vN at h;split at h
 ·rename_i c cs;cases hr with
  |tuple hl=>rw[aH.Hf hl (by rw[yg];exact h)]
 ·cases h
 ·exact hr.lU h
theorem acp{q:eH}{h:IH}{K:KR}(h0:IH)(v:Value)(hv:vN v=true)(hq:q.pm=none)(hfn:lc h0.next (.func q.fn ⟨q.args⟩ ⟨q.captured⟩)=true)
 (hgl:P.globals.size<=h0.next)
 (hsub:∀i o,h0.get i=some o->i<h0.next/\h.get i=some o/\zL h0.next o=true)
 (M:KR) (hc:jc P q h0 M) (h1:∀r pm h',M r pm h'->pm=none/\r=.ok v/\h'.low=h0.next)
 (hk:K (.ok v) none h):jc P q h K:=by
 intro β w fn' args' cap' hG hW hfr ha hcap;have hb0:∀i g,β.cut h0.next i=some g->i<h0.next/\β i=some g:=λi g hg=>by
  simp only[ax.cut]at hg;split at hg
  ·rename_i hi;exact⟨hi,hg⟩
  ·cases hg
 have hb1:∀i,i<h0.next->β.cut h0.next i=β i:=λi hi=>ax.Ab hi
 have hG0:jy P (β.cut h0.next):=λg hg=>by
  obtain⟨i,h1,h2⟩:=hG g hg;exact⟨i,by rw[hb1 g (j4 hg hgl)];exact h1,h2⟩
 have hlive:∀i,h0.get i≠none->h.get i≠none:=λi hi=>by
  cases e:h0.get i with
  |none=>exact absurd e hi
  |some o=>rw[(hsub i o e).2.1];simp
 have hW0:WR P (β.cut h0.next) h0 w:=by
  refine⟨λi g hg=>(hb0 i g hg).1,λi o ho=>(hsub i o ho).1,?_,?_⟩
  ·intro i g o hg ho;obtain⟨_,hget,hcl⟩:=hsub i o ho;exact(hW.obj i g _ (hb0 i g hg).2 hget).cut hcl
  ·intro i j g k hg hk hi hj hr he;have pass:∀x,h0.get x≠none->(∀cs,h0.get x≠some (.gK cs))->∀cs,h.get x≠some (.gK cs):=λx hx q cs e=>by
    cases e0:h0.get x with
    |none=>exact hx e0
    |some o=>rw[(hsub x o e0).2.1]at e;exact q cs (by rw[e0];exact e)
   exact hW.inj i j g k (hb0 i g hg).2 (hb0 j k hk).2 (hlive i hi) (hlive j hj) (hr.imp (pass _ hi) (pass _ hj)) he
 have sV:=(VR.func hfr ha hcap).cut hfn;cases sV with
 |func KM ha0 hcap0=>
 obtain⟨nx,F0,n1,n2,n3⟩:=hc (β.cut h0.next) w fn' args' cap' hG0 hW0 KM ha0 hcap0;refine⟨nx,F0,n1,n2,λcs0 ry=>?_⟩;obtain⟨r,pm',h',β',w',r',cs1,q1,q2,q3,q4,q5,q6⟩:=n3 cs0 (by intro m hm;rw[hq]at hm;cases hm);obtain⟨hpm,rfl,hlow'⟩:=h1 r pm' h' q1;subst hpm;cases q4 with
 | @ok v v' mK=>
   have hvv:=VR.aco mK hv;subst hvv;have CV:WR P β h w':=by
    refine⟨hW.dom,hW.live,?_,hW.inj⟩;intro i g o hg ho;have hor:=hW.obj i g o hg ho;by_cases hb:∀j k,β.cut h0.next j=some k->h0.get j≠none->k.b≠g.b
    ·exact hor.congr (q3.keep g.b hor.lt hb)
    ·have hb:∃j k,β.cut h0.next j=some k/\h0.get j≠none/\k.b=g.b:=by
      apply Classical.byContradiction;intro hc;exact hb λj k hk hj hkb=>hc ⟨j,k,hk,hj,hkb⟩
     obtain⟨j,k,hk,hj,hkb⟩:=hb;cases e:h0.get j with
     |none=>exact absurd e hj
     |some o0=>
      obtain⟨hjn,hget,hcl⟩:=hsub j o0 e;have hij:i=j:=hW.inj i j g k hg (hb0 j k hk).2 (by rw[ho];simp) (by rw[hget];simp) (.inr (by rw[hget];intro cs e;cases e;cases hcl)) hkb.symm;subst hij;rw[hget]at ho;cases ho;have KN:g=k:=by have:=(hb0 i k hk).2;rw[hg]at this;cases this;rfl
      subst KN;have hk':h'.get i=some o:=by rw[q3.kept i (by rw[hlow'];exact hjn) hjn];exact e
      have KP:=q2.obj i g _ (by rw[q3.agree i hjn];exact hk) hk';exact((hor.cut hcl).restrict (q3.le hW0.dom) KP).mono (ax.Qp _ _)
   have hE:Eff β h w β h w':=
    {agree:=λ_ _=>rfl
     next:=aG _
     alive:=λ_ _ hn=>hn
     hid:=λ_ _ _=>rfl
     low:=aG _
     kept:=λ_ _ _=>rfl
     os:=q3.os,tape:=q3.tape,output:=q3.output,drawn:=q3.drawn,size:=q3.size
     keep:=λb hb hno=>q3.keep b hb λi g hg hn=>hno i g (hb0 i g hg).2 (hlive i hn)
     fresh:=λi g hg hi=>absurd (hW.dom i g hg) (by omega)
     nU:=λi g _ hi hg hn hgb=>by
      by_cases hb:∀j k,β.cut h0.next j=some k->h0.get j≠none->k.b≠g.b
      ·exact q3.keep g.b hgb hb
      ·have hb:∃j k,β.cut h0.next j=some k/\h0.get j≠none/\k.b=g.b:=by
        apply Classical.byContradiction;intro hc;exact hb λj k hk hj hkb=>hc ⟨j,k,hk,hj,hkb⟩
       obtain⟨j,k,hk,hj,hkb⟩:=hb;have hjn:=(hb0 j k hk).1;rw[<- hkb];exact q3.nU j k (by rw[hlow'];exact hjn) hjn hk hj (by rw[hkb];exact hgb)}
   exact⟨_,none,h,β,w',.returned v',cs1,hk,CV,hE,.ok (VR.RV hv),by rw[hq]at q5⊢;cases q5;exact .none _,by
    rcases q6 with h6|h6
    ·exact .inl h6
    ·exact .inr h6⟩
theorem acr{P:Program}(nX:P.follows .mixedOrders=true){l:List (Nat×di)}{n fn:Nat}{args:List Value}{v:Value}(hv:vN v=true)(hb:qi n args=true)(hl:l.all (λp=>Nat.blt p.1 n&&zL n p.2)=true)
 (hgl:P.globals.size<=n) (hc:CALL P ⟨.func fn,args,[],none⟩ ⟨heapT l,n,n⟩ (λr pm h'=>pm=none/\r=.ok v/\h'.low=n))
 {q:eH} {h:IH} {v':Value} {h':IH} (hk:known l n fn args v q h=some (v',h')):CALL P q h (λr pm h2=>r=.ok v'/\pm=none/\h2=h'):=by
 unfold known at hk;split at hk
 ·rename_i f as;cases hcd:(Nat.beq f fn&&oZ 5 (.tuple ⟨args⟩) (.tuple ⟨as⟩)&&Nat.ble n h.next&&FN l h)with
  |false=>rw[hcd]at hk;cases hk
  |true=>
   rw[hcd]at hk;simp only[cond,az,bK]at hk;obtain⟨rfl,rfl⟩:=hk;simp only[fD]at hcd;obtain⟨⟨⟨h1,h2⟩,h3⟩,h4⟩:=hcd;have h1:=jR h1;subst h1;have h2:=Ae _ _ _ h2;injection h2 with h2;injection h2 with h2;subst h2;refine .real (acp ⟨heapT l,n,n⟩ v hv rfl ?_ hgl ?_ _ (KQ nX hc) (λr pm h' h=>h) ⟨rfl,rfl,rfl⟩)
   ·show lc n (.func (.func f) ⟨args⟩ ⟨[]⟩)=true;simp[lc,qi,hb]
   ·intro i o ho;rcases Qz l i with e|⟨o',e1,e2⟩
    ·exact absurd (ho.symm.trans e) (by simp)
    ·have:o'=o:=by have:=e2.symm.trans ho;simpa using this
     subst this;rw[jE]at hl;have:=hl _ e1;simp only[fD]at this;exact⟨Ac this.1,aab h4 i o' e1,this.2⟩
 ·cases hk
