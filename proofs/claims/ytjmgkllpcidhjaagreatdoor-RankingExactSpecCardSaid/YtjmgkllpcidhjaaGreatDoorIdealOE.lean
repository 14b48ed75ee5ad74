/-
  The ideal machine, 72: conversions between integers, shifts of unsigned ones; arrays of numbers as keys.
-/
import Derived.Test.YtjmgkllpcidhjaaGreatDoorIdealNE
set_option linter.all false
namespace Go.Ideal
variable {P:Program}
theorem Jr{ρ:Operand->Value}{src dst:TypeId}{x:Operand}{kk k:IntKind}{n m:Int}{ds:TypeDesc}(hs:P.underlying src=some ds)(hd:P.underlying dst=some (.int k))(hx:ρ x=.int kk n)(hw:k.wrap n=m):Pu P ρ (.conv src dst x) (.int k m):=λh=>by
 have h1:dQ P (convert src dst (.int kk n))=some (.int k m):=by
  unfold convert;rw[kE,xO hs];simp only[jD];rw[kE,xO hd];simp only[jD];rw[<- hw];rfl
 simp only[ae.run,hx,jd,h1];rfl
end Go.Ideal
namespace Go.Ideal
section
variable {P:Program}
variable {ds:List Tmp} {rest:List aK} {n:Nat} {l:List (Nat×Value)} {D:List Deferred} {pm:Option FrameMode} {ro:Option Nat} {h:IH} {K:KO} {d:Nat} {g:Option (Tmp×Bool)}
theorem xY{op:ae}{v:Value}{h':IH}{re:List dN}(hn:Nat.blt d n=true)(hg:bn l g=true)(hr:op.run P (ev l) h=some (v,h'))
 (hsm:∀q∈re,∃u h2,q.op.run P (ev ((d,v)::l)) h'=some (u,h2)/\∀d',q.dst=some d'->lk ((d,v)::l) d'=u)
 (next:ax P ds rest (act n ((d,v)::l) D pm ro) h' K):ax P ds (⟨⟨some d,g,op⟩,re⟩::rest) (act n l D pm ro) h K:=
 .fQ (qQ hg) v h' (by rw[jM];exact hr) (λq hq _=>by
  obtain⟨u,h2,e1,e2⟩:=hsm q hq;rw[lu hn];exact⟨u,h2,by rw[jM];exact e1,λd' hd=>by rw[<- e2 d' hd];exact mU _ _⟩) (by rw[lu hn];exact next)
theorem Js{re:List dN}{e:TypeId}{size bytes b o m k:Nat}{f:Option Nat}{s x:Operand}{old xs:List Value}(hn:Nat.blt d n=true)(hg:bn l g=true)
 (hs:ev l s=.slice (some ⟨b,o,f⟩) m m) (hx:jf (ev l x)=some (k+1)) (hxs:iC size (k+1) (ev l x) h=some xs) (hold:h.dx b o (m*size)=some old)
 (hf:f=some 0\/f=some size) (hm:(m+(k+1))*bytes<=1073741824/\(m+(k+1))*size<=1073741824/\m+(k+1)<=1073741824)
 (hsm:∀h',qU h h' b (.cells (old++xs))->∀q∈re,∃u h2,q.op.run P (ev ((d,.slice (some ⟨h.next,0,some size⟩) (m+(k+1)) (m+(k+1)))::l)) h'=some (u,h2)/\∀d',q.dst=some d'->lk ((d,.slice (some ⟨h.next,0,some size⟩) (m+(k+1)) (m+(k+1)))::l) d'=u)
 (next:∀h',qU h h' b (.cells (old++xs))->ax P ds rest (act n ((d,.slice (some ⟨h.next,0,some size⟩) (m+(k+1)) (m+(k+1)))::l) D pm ro) h' K):
 ax P ds (⟨⟨some d,g,.append e size bytes s x⟩,re⟩::rest) (act n l D pm ro) h K:=by
 have hle:∀{a b:Nat},a<=b->Nat.ble a b=true:=λh=>by rw[kY];exact h
 have hlt:Nat.ble (m+(k+1)) m=false:=by
  cases hb:Nat.ble (m+(k+1)) m with
  |false=>rfl
  |true=>have:=gY hb;omega
 have hc:(Nat.ble (Nat.mul (m+(k+1)) bytes) small&&Nat.ble (Nat.mul (m+(k+1)) size) small&&Nat.ble (m+(k+1)) small)=true:=by
  rw[hle (show Nat.mul (m+(k+1)) bytes<=small from hm.1),hle (show Nat.mul (m+(k+1)) size<=small from hm.2.1),hle (show m+(k+1)<=small from hm.2.2)];rfl
 have hrun:∃h',(ae.append e size bytes s x).run P (ev l) h=some (.slice (some ⟨h.next,0,some size⟩) (m+(k+1)) (m+(k+1)),h')/\qU h h' b (.cells (old++xs)):=by
  have tq:oL size (k+1) (ev l x) h=some xs:=hxs;simp only[ae.run,hx,tq,hs,kZ];have e1:iC size m (.slice (some ⟨b,o,f⟩) m m) h=some old:=hold;show∃h',(cond (Nat.ble (Nat.mul (m+(k+1)) bytes) small&&Nat.ble (Nat.mul (m+(k+1)) size) small&&Nat.ble (m+(k+1)) small) _ _)=_/\_;rw[hc];show∃h',(cond (Nat.ble (m+(k+1)) m) _ _)=_/\_;rw[hlt];simp only[cond,e1];rcases hf with rfl|rfl
  ·refine⟨_,rfl,?_⟩;exact⟨rfl,λi hi _=>by rw[IH.eO,if_neg (by omega)],⟨oF _,by rw[IH.eO,if_pos rfl,fP]⟩,λ_=>rfl⟩
  ·cases size with
   |zero=>
    refine⟨_,rfl,?_⟩;exact⟨rfl,λi hi _=>by rw[IH.eO,if_neg (by omega)],⟨oF _,by rw[IH.eO,if_pos rfl,fP]⟩,λ_=>rfl⟩
   |succ j=>
    have hj:Nat.beq (Nat.succ j) (j+1)=true:=wm _;refine⟨(h.kill b).new (.cells (old++xs)),?_,?_⟩
    ·show cond (Nat.beq (Nat.succ j) (j+1)) _ _=_;rw[hj,fP];rfl
    ·exact⟨rfl,λi hi hb=>by rw[IH.eO,if_neg (by show i≠h.next;omega),IH.mE,if_neg hb],⟨oF _,by rw[IH.eO];exact if_pos rfl⟩,λhl=>by rw[IH.Cc,IH.sJ];omega⟩
 obtain⟨h',hr,hM⟩:=hrun;exact xY hn hg hr (hsm h' hM) (next h' hM)
theorem Jt{re:List dN}{e:TypeId}{size bytes k c:Nat}{s x:Operand}{xs:List Value}(hn:Nat.blt d n=true)(hg:bn l g=true)
 (hs:ev l s=.slice none 0 0) (hx:jf (ev l x)=some (k+1)) (hxs:iC size (k+1) (ev l x) h=some xs)
 (hm:(k+1)*bytes<=1073741824/\(k+1)*size<=1073741824/\(k+1)<=1073741824)
 (hsm:∀h',Agree h h'->At h' h.next (.cells xs)->h'.next=h.next+1->∀q∈re,∃u h2,q.op.run P (ev ((d,.slice (some ⟨h.next,0,some size⟩) (k+1) (k+1))::l)) h'=some (u,h2)/\∀d',q.dst=some d'->lk ((d,.slice (some ⟨h.next,0,some size⟩) (k+1) (k+1))::l) d'=u)
 (next:∀h',Agree h h'->At h' h.next (.cells xs)->h'.next=h.next+1->ax P ds rest (act n ((d,.slice (some ⟨h.next,0,some size⟩) (k+1) (k+1))::l) D pm ro) h' K):
 ax P ds (⟨⟨some d,g,.append e size bytes s x⟩,re⟩::rest) (act n l D pm ro) h K:=by
 have hle:∀{a b:Nat},a<=b->Nat.ble a b=true:=λh=>by rw[kY];exact h
 have e0:Nat.add 0 (k+1)=k+1:=eU _;refine xY hn hg (h':=h.new (.cells xs)) ?_ (hsm _ (Dz _ _) (DC _ _) rfl) (next _ (Dz _ _) (DC _ _) rfl);have tq:oL size (k+1) (ev l x) h=some xs:=hxs;simp only[ae.run,hx,tq,hs,kZ,e0];rw[hle (show Nat.mul (k+1) bytes<=small from hm.1),hle (show Nat.mul (k+1) size<=small from hm.2.1),hle (show k+1<=small from hm.2.2)];have e1:iC size 0 (.slice none 0 0) h=some []:=by
  show(match (0:Nat)with|0=>some ([]:List Value)|_=>none)=_;rfl
 have e2:Nat.ble (k+1) 0=false:=rfl;simp only[BF,cond_true,e2,cond_false,e1,fP,iL]
end
section
variable {P:Program}
variable {ρ:Operand->Value}
variable {B:List Nat} {w0:Wd} {kl kl':List OA} {F:List aH} {a:aC} {K:KO}
variable {y:bu} {i j m0:Nat} {I:Nat->aC->IH->Prop} {ch:List PanicEntry}
variable {B:List Nat} {w0:Wd} {kl kl':List OA} {F:List aH} {K:KO} {ds:List Tmp} {rest:List aK} {n:Nat} {l:List (Nat×Value)} {D:List Deferred} {pm:Option FrameMode} {ro:Option Nat} {d:Nat} {g:Option (Tmp×Bool)}
end
section
variable {P:Program} {B:List Nat} {w0:Wd} {kl kl' cZ:List OA} {F:List aH} {K:KO} {n:Nat} {l:List (Nat×Value)} {D:List Deferred} {pm:Option FrameMode} {ro:Option Nat}
end
end Go.Ideal
namespace Go.Ideal
variable {P:Program}
section
variable {α κ:Type} [DecidableEq κ] {bK:κ->Value} {E:Enc α}
variable {B:List Nat} {w0:Wd} {kl kl' cZ k1 k2:List OA} {F:List aH} {Q:IH->Prop} {b:Nat} {m:List (κ×List α)}
end
end Go.Ideal
namespace Go.Ideal
variable {P:Program} {B:List Nat} {w0:Wd} {kl kl' cZ:List OA} {F:List aH} {K:KO} {ds:List Tmp} {rest:List aK} {n:Nat} {l:List (Nat×Value)} {D:List Deferred} {pm:Option FrameMode} {ro:Option Nat} {d:Nat} {g:Option (Tmp×Bool)}
end Go.Ideal
namespace Go.Ideal
variable {P:Program} {B:List Nat} {w0:Wd} {kl kl' cZ k1 k2:List OA} {F:List aH} {Q:IH->Prop}
section
variable {β:Type} (A:Value->β->OA)
end
end Go.Ideal
namespace Go.Ideal
variable {P:Program}
theorem bJ.facts{Y:Type}{fn:Fn}{args cap:List Value}{kl:List OA}{F F2:List aH}{val:Y->Value}{kl':Y->List OA}{fs:Y->List aH}{pr:Y->Prop}(h:bJ P fn args cap kl F val kl' fs pr)(hF:∀f∈F,f∈F2):bJ P fn args cap kl F2 val kl' fs pr:=
 λB w s=>h B w ⟨s.agree,s.le,s.dW,s.own,λf hf=>s.facts f (hF f hf)⟩
section
variable {B:List Nat} {w0:Wd} {kl kl' cZ:List OA} {F:List aH} {K:KO} {n:Nat} {l:List (Nat×Value)} {D:List Deferred} {pm:Option FrameMode} {ro:Option Nat}
end
section
variable {B:List Nat} {w0:Wd} {kl:List OA} {F:List aH}
end
end Go.Ideal
namespace Go.Ideal
variable {P:Program} {B:List Nat} {w0:Wd} {kl kl' cZ:List OA} {F:List aH} {K:KO} {ds:List Tmp} {rest:List aK} {n:Nat} {l:List (Nat×Value)} {D:List Deferred} {pm:Option FrameMode} {ro:Option Nat} {d:Nat} {g:Option (Tmp×Bool)}
theorem Sr{e:TypeId}{size bytes:Nat}{zero:List Value}{s x:Operand}(m:Nat)(h0:0<m)(hm:m*bytes<=1073741824/\m*size<=1073741824/\m<=1073741824)
 (next:∀b,R (λh=>ax P ds rest (act n ((d,.slice (some ⟨b,0,some size⟩) m m)::l) D pm ro) h K) B w0 (pt b (.cells (zeros zero m))::kl) F)
 (hs:ev l s=.slice none 0 0:=by rfl) (hx:ev l x=.int .i64 (m:Int):=by rfl) (hn:Nat.blt d n=true:=by rfl) (hg:bn l g=true:=by rfl):
 R (λh=>ax P ds (⟨⟨some d,g,.uu e size bytes zero s x⟩,[]⟩::rest) (act n l D pm ro) h K) B w0 kl F:=λw st=>by
 have hle:∀{a b:Nat},a<=b->Nat.ble a b=true:=λh=>by rw[kY];exact h
 refine gI hn hg (v:=.slice (some ⟨w.h.next,0,some size⟩) m m) (h':=w.h.new (.cells (zeros zero m))) ?_ (next w.h.next (w.new _) (st.new _));obtain⟨k,rfl⟩:∃k,m=k+1:=⟨m - 1,by omega⟩
 have hx':ev l x=.int .i64 (.ofNat (k+1)):=hx;simp only[ae.run,hx',hs];have e1:(Nat.ble (Nat.mul (k+1) bytes) small&&Nat.ble (Nat.mul (k+1) size) small&&Nat.ble (k+1) small)=true:=by
  rw[hle (show Nat.mul (k+1) bytes<=small from hm.1),hle (show Nat.mul (k+1) size<=small from hm.2.1),hle (show k+1<=small from hm.2.2)];rfl
 rw[e1];rfl
theorem EL{cs1 cs2 xs:List Value}(h:xs.length<=cs2.length):eG (cs1++cs2) cs1.length xs=some (cs1++(xs++cs2.drop xs.length)):=by
 obtain⟨r,hr⟩:=EH (cs1++cs2) cs1.length xs (by rw[fE];omega);obtain⟨h1,h2,h3⟩:=Cg hr;rw[hr];congr 1;apply ja;intro j;rw[h3 j];by_cases c1:j<cs1.length
 ·rw[if_neg (by omega),jE c1,jE c1]
 ·by_cases c2:j<cs1.length+xs.length
  ·rw[if_pos ⟨by omega,c2⟩,ny (by omega),jE (by omega)]
  ·rw[if_neg (by omega),ny (by omega),ny (by omega),ny (by omega),iK];congr 1;omega
theorem Ju{α:Type}{E:Enc α}{v:Value}{aa:List (α×E.Y)}{w:Wd}(h:(pW E v aa).p w):jf v=some aa.length/\oL E.n aa.length v w.h=some (aO E aa):=by
 rcases h with⟨rfl,a,c,rfl,_⟩|⟨i,o,f,c,cells,⟨e1,hc⟩,q2,q3⟩
 ·exact⟨rfl,rfl⟩
 subst e1;refine⟨rfl,?_⟩;by_cases hne:aa=[]
 ·subst hne;rfl
 obtain⟨k,hk'⟩:∃k,aa.length=k+1:=⟨aa.length - 1,by have:=y9.2 hne;omega⟩
 have hfl:=pV aa;have hcells:∀j,j<aa.length*E.n->cells[o+j]? =(aO E aa)[j]?:=λj hj=>by
  have hn0:0<E.n:=by
   rcases BC E.n with h0|h0
   ·rw[h0]at hj;omega
   ·exact h0
  have hd:j/E.n<aa.length:=by rw[Nat.div_lt_iff_lt_mul hn0];exact hj
  have hmod:=Nat.mod_lt j hn0;have hpk:=bO hd;have hu:(E.pat (aa[j/E.n]).1 (aa[j/E.n]).2)[j%E.n]? =some ((E.pat (aa[j/E.n]).1 (aa[j/E.n]).2)[j%E.n]'(by rw[E.len];exact hmod)):=bO _;have h1:=(q3 (j/E.n) _ hpk).1 (j%E.n) _ hu;have h2:=Au hpk hu;have xM:j/E.n*E.n+j%E.n=j:=by rw[Nat.mul_comm];exact Nat.div_add_mod j E.n
  rw[j6,xM]at h1;rw[xM]at h2;rw[h1,h2]
 have hlen:o+aa.length*E.n<=cells.length\/aa.length*E.n=0:=by
  rcases BC (aa.length*E.n)with h0|h0
  ·exact .inr h0
  ·left;have h1:=hcells (aa.length*E.n - 1) (by omega);have hx0:(aO E aa)[aa.length*E.n - 1]? =some ((aO E aa)[aa.length*E.n - 1]'(by omega)):=bO _;rw[hx0]at h1;have:=(fH.1 h1).1;omega
 have hread:w.h.dx i o (aa.length*E.n)=some (aO E aa)\/(aa.length*E.n=0):=by
  rcases hlen with hlen|hlen
  ·left;rw[q2.cells.dx,jG,jH,if_pos (by rw[jQ];omega)];congr 1;apply ja;intro j;rw[mo];by_cases hj:j<aa.length*E.n
   ·rw[if_pos hj,iK];exact hcells j hj
   ·rw[if_neg hj,gU (by omega)]
  ·exact .inr hlen
 have hread:w.h.dx i o (aa.length*E.n)=some (aO E aa):=by
  rcases hread with h|h
  ·exact h
  ·have hf0:aO E aa=[]:=nA.1 (by omega);rw[h,q2.cells.dx,jH,if_pos (dz _),hf0];rfl
 rw[hk']at hread⊢;exact hread
theorem Su{α:Type}{e:TypeId}{size bytes b m cap:Nat}{f:Option Nat}{s x:Operand}{v:Value}(E:Enc α)(aa:List (α×E.Y))(cs1 cs2:List Value)(h1:cs1.length=m*E.n)(h2:aa.length*E.n<=cs2.length)(hc:m+aa.length<=cap)
 (hm:(m+aa.length)*bytes<=1073741824/\(m+aa.length)*size<=1073741824/\(m+aa.length)<=1073741824)
 (next:R (λh=>ax P ds rest (act n ((d,.slice (some ⟨b,0,f⟩) (m+aa.length) cap)::l) D pm ro) h K) B w0 (pt b (.cells (cs1++(aO E aa++cs2.drop (aa.length*E.n))))::kl') F)
 (hs:ev l s=.slice (some ⟨b,0,f⟩) m cap:=by rfl) (hx:ev l x=v:=by conv=>lhs;whnf) (hf:pW E v aa∈F:=by exact nV) (hz:E.n=size:=by rfl) (hk:ak (pt b (.cells (cs1++cs2))) kl kl':=by exact gP) (hn:Nat.blt d n=true:=by rfl) (hg:bn l g=true:=by rfl):
 R (λh=>ax P ds (⟨⟨some d,g,.append e size bytes s x⟩,[]⟩::rest) (act n l D pm ro) h K) B w0 kl F:=λw st=>by
 subst hz;have hle:∀{a b:Nat},a<=b->Nat.ble a b=true:=λh=>by rw[kY];exact h
 have st1:=st.fC hk;obtain⟨r1,r2⟩:=Ju (st.facts _ hf);have hfl:=pV aa;have hlv:eG (cs1++cs2) cs1.length (aO E aa)=some (cs1++(aO E aa++cs2.drop (aa.length*E.n))):=by
  rw[EL (by omega),hfl]
 refine gI hn hg (v:=.slice (some ⟨b,0,f⟩) (m+aa.length) cap) (h':=w.h.set b (.cells (cs1++(aO E aa++cs2.drop (aa.length*E.n))))) ?_ (next ⟨w.h.set b _,w.z,λi hi=>w.iw i hi⟩ st1.write);have e1:w.h.storeAt b (Nat.add 0 (Nat.mul m E.n)) (aO E aa)=some (w.h.set b (.cells (cs1++(aO E aa++cs2.drop (aa.length*E.n))))):=by
  unfold IH.storeAt;simp only[st1.get.1];rw[show Nat.add 0 (Nat.mul m E.n)=cs1.length by rw[h1];exact eU _,hlv]
 simp only[ae.run,hx,hs,r1,r2,kZ];show cond (Nat.ble (Nat.mul (m+aa.length) bytes) small&&Nat.ble (Nat.mul (m+aa.length) E.n) small&&Nat.ble (m+aa.length) small) (cond (Nat.ble (m+aa.length) cap) (match w.h.storeAt b (Nat.add 0 (Nat.mul m E.n)) (aO E aa)with|some h=>some (Value.slice (some ⟨b,0,f⟩) (m+aa.length) cap,h)|none=>none) _) none=_;rw[hle (show Nat.mul (m+aa.length) bytes<=small from hm.1),hle (show Nat.mul (m+aa.length) E.n<=small from hm.2.1),hle (show m+aa.length<=small from hm.2.2),hle hc,e1];rfl
theorem Sv{ρ:Operand->Value}{x hi:Operand}{b m c k:Nat}(hx:ρ x=.slice (some ⟨b,0,some (k+1)⟩) m c)(hh:ρ hi=.int .i64 (0:Int)):Pu P ρ (.kr (k+1) x none (some hi) none) (.slice (some ⟨b,0,some (k+1)⟩) 0 c):=λh=>by
 simp only[ae.run,hx];show(match bounds? m c none (some (ρ hi)) none with|some (l,hh,m)=>cond (Nat.beq (Nat.succ k) (k+1)) (some (Value.slice (some ⟨b,Nat.add 0 (Nat.mul l (k+1)),some (Nat.succ k)⟩) (Nat.sub hh l) (Nat.sub m l),h)) none|none=>none)=_;rw[hh];have e1:bounds? m c none (some (.int .i64 (0:Int))) none=some (0,0,c):=rfl;rw[e1];show cond (Nat.beq (Nat.succ k) (k+1)) (some (Value.slice (some ⟨b,Nat.add 0 (Nat.mul 0 (k+1)),some (Nat.succ k)⟩) (Nat.sub 0 0) (Nat.sub c 0),h)) none=_;rw[show Nat.beq (Nat.succ k) (k+1)=true from wm _,show Nat.mul 0 (k+1)=0 from nG _];rfl
theorem Jv{ρ:Operand->Value}{x hi:Operand}{k c:Nat}(hx:ρ x=.slice none 0 c)(hh:ρ hi=.int .i64 (0:Int)):Pu P ρ (.kr k x none (some hi) none) (.slice none 0 c):=λh=>by
 simp only[ae.run,hx];show(match bounds? 0 c none (some (ρ hi)) none with|some (l,hh,m)=>some (Value.slice none (Nat.sub hh l) (Nat.sub m l),h)|none=>none)=_;rw[hh];have e1:bounds? 0 c none (some (.int .i64 (0:Int))) none=some (0,0,c):=rfl;rw[e1];rfl
theorem Sw{ρ:Operand->Value}{s x:Operand}{e:TypeId}{size bytes c:Nat}{a:Option Addr}(hs:ρ s=.slice none 0 0)(hx:ρ x=.slice a 0 c):Pu P ρ (.append e size bytes s x) (.slice none 0 0):=λh=>by
 simp only[ae.run,hx,hs];show kZ size bytes (.slice none 0 0) 0 [] h=_;unfold kZ;have h0:∀m,Nat.mul (Nat.add 0 0) m=0:=λm=>nG m;show cond (Nat.ble (Nat.mul (Nat.add 0 0) bytes) small&&Nat.ble (Nat.mul (Nat.add 0 0) size) small&&Nat.ble (Nat.add 0 0) small) (cond (Nat.ble (Nat.add 0 0) 0) (some (Value.slice none (Nat.add 0 0) 0,h)) _) none=_;rw[h0,h0];rfl
theorem Jw{ρ:Operand->Value}{x:Operand}(hx:ρ x=.slice none 0 0):Pu P ρ (.wy x) (.int .i64 0):=λh=>by
 simp only[ae.run,hx];rfl
end Go.Ideal
namespace Go.Ideal
open Go.RowKit Go.WideShapes Go.ChangeShapes
variable {P:Program}
theorem Sy(mQ:P.follows .mixedOrders=true){f:FuncId}(fn:Func)(hfn:P.funcs[f]? =some fn)(hbody:fn.body.isNone=false)(hname:(fn.name== "runtime.NumGoroutine")=false){args args':List Value}{L:Lay}{w:World}{v:Value}(Sz:gF P (fB L))
 (hL:∀(i:Nat) g cs,L[i]? =some (some g,some cs)->uY L w g cs) (hargs:aA (fB L) args args') (hv:bf v=true)
 (hc:CALL P ⟨.func f,args,[],none⟩ (fK L) (λr pm h'=>pm=none/\r=.ok v/\Agree (fK L) h')):
 Calls P f ⟨args'⟩ w (λe w'=>e=.returned v/\Below w.heap.size w w'):=by
 have hM:=Dr mQ hc;have hW:WR P (fB L) (fK L) w:=Qv hL;obtain⟨nx,F0,n1,n2,n3⟩:=hM (fB L) w (.func f) args' [] Sz hW (.func f) hargs .nil;have hnx:nx=.enter f ⟨args'⟩:=by
  have hcall:(callFunc f ⟨args'⟩).run P w=.ok (.enter f ⟨args'⟩) w:=by
   simp only[callFunc,aR,run_program,aS,hfn,hname,hbody,rW,if_false,bG]
  have e:(⟨args'⟩:Array Value)++(⟨[]⟩:Array Value)=⟨args'⟩:=by apply Array.ext';simp
  have n1:(invoke (.fn (.func f) ⟨[]⟩) ⟨args'⟩).run P w=.ok nx w:=n1;simp only[invoke,e]at n1;rw[hcall]at n1;cases n1;rfl
 subst hnx;have qY:F0=Frame.enter P f ⟨args'⟩ .normal:=by
  have:entry P .normal (.enter f ⟨args'⟩)=some (Frame.enter P f ⟨args'⟩ .normal):=rfl;have n2:entry P .normal (.enter f ⟨args'⟩)=some F0:=n2;rw[this]at n2;exact(Option.some.inj n2).symm
 subst qY;intro cs;obtain⟨r,pm',h',β',w',r',cs1,q1,q2,q3,q4,q5,q6⟩:=n3 cs (by intro m hm;cases hm);obtain⟨hp,rfl,hag⟩:=q1;cases q5;cases q4 with
 | @ok v v' jm=>
   have:=jm.iO hv;subst this;rcases q6 with⟨f1,a1,F1,e1,e2,e3,e4,e5⟩|⟨⟨_,l,e1⟩,_⟩
   ·cases e1;refine⟨.returned v',w',F1,⟨rfl,?_⟩,e2,e3,?_⟩
    ·refine⟨q3.os,q3.tape,q3.output,q3.size,λk hk=>?_⟩;by_cases hx:∀i g,fB L i=some g->(fK L).get i≠none->g.b≠k
     ·exact q3.keep k hk hx
     ·have hx:∃i g,fB L i=some g/\(fK L).get i≠none/\g.b=k:=by
       apply Classical.byContradiction;intro hc;exact hx λi g hi hg hb=>hc ⟨i,g,hi,hg,hb⟩
      obtain⟨i,g,hi,hg,rfl⟩:=hx;have hin:=hW.dom i g hi;exact q3.jI i g (by rw[hag.low (az _)];exact hin) hin hi hg hk
    ·obtain⟨t1,t2,fn,t3,t4⟩:=e5;exact⟨t1,t2,e4,fn,t3,t4⟩
   ·cases e1
section
variable {H:Type} {enc:TypeId×Value->H} {W:World}
end
def Av(n:Nat):aH:=⟨λw=>n<=w.h.next,λa h=>bF h a.next⟩
theorem SA{f:FuncId}{v:Value}{n:Nat}(hs:∀h:IH,n<=h.next->CALL P ⟨.func f,[],[],none⟩ h (λr pm h'=>pm=none/\r=.ok v/\h'=h)):fG P f [] [Av n] v:=λB w s=>
 .qM _ (hs w.h (s.facts (Av n) (dH.2 rfl))) (by rintro r pm h' ⟨rfl,rfl,rfl⟩;exact⟨rfl,w,(),rfl,⟨s.agree,s.le,s.dW,s.own,λf h=>by cases h⟩,rfl,trivial⟩)
end Go.Ideal
namespace Go.Ideal
variable {P:Program}
def tJ:Value->Bool
 | .tuple ⟨c::cs⟩=>bf c&&cs.all bf
 | .tuple _=>false
 |v=>bf v
theorem aA.Jy{β:ai}:∀{l:List Value},l.all bf=true->aA β l l
 |[],_=>.nil
 |v::l,h=>by
  rw[tZ,di]at h;exact .cons (VR.free h.1) (aA.Jy h.2)
theorem aA.Aw{β:ai}:∀{l l':List Value},aA β l l'->l.all bf=true->l'=l
 |_,_,.nil,_=>rfl
 |_,_,.cons h1 h2,h=>by
  rw[tZ,di]at h;rw[h1.iO h.1,aA.Aw h2 h.2]
theorem VR.Jz{β:ai}{v:Value}(h:tJ v=true):VR β v v:=by
 unfold tJ at h;split at h
 ·rename_i c cs;exact .tuple (aA.Jy (by rw[tZ];exact h))
 ·cases h
 ·exact VR.free h
theorem VR.SB{β:ai}{v v':Value}(hr:VR β v v')(h:tJ v=true):v'=v:=by
 unfold tJ at h;split at h
 ·rename_i c cs;cases hr with
  |tuple hl=>rw[aA.Aw hl (by rw[tZ];exact h)]
 ·cases h
 ·exact hr.iO h
theorem SC{q:aQ}{h:IH}{K:KR}(h0:IH)(v:Value)(hv:tJ v=true)(hq:q.pm=none)(hfn:iE h0.next (.func q.fn ⟨q.args⟩ ⟨q.captured⟩)=true)
 (hgl:P.globals.size<=h0.next)
 (hsub:∀i o,h0.get i=some o->i<h0.next/\h.get i=some o/\uD h0.next o=true)
 (M:KR) (hc:fJ P q h0 M) (h1:∀r pm h',M r pm h'->pm=none/\r=.ok v/\h'.low=h0.next)
 (hk:K (.ok v) none h):fJ P q h K:=by
 intro β w fn' args' cap' hG hW hfr ha hcap;have hb0:∀i g,β.cut h0.next i=some g->i<h0.next/\β i=some g:=λi g hg=>by
  simp only[ai.cut]at hg;split at hg
  ·rename_i hi;exact⟨hi,hg⟩
  ·cases hg
 have hb1:∀i,i<h0.next->β.cut h0.next i=β i:=λi hi=>ai.uT hi
 have hG0:gF P (β.cut h0.next):=λg hg=>by
  obtain⟨i,h1,h2⟩:=hG g hg;exact⟨i,by rw[hb1 g (gT hg hgl)];exact h1,h2⟩
 have hlive:∀i,h0.get i≠none->h.get i≠none:=λi hi=>by
  cases e:h0.get i with
  |none=>exact absurd e hi
  |some o=>rw[(hsub i o e).2.1];simp
 have hW0:WR P (β.cut h0.next) h0 w:=by
  refine⟨λi g hg=>(hb0 i g hg).1,λi o ho=>(hsub i o ho).1,?_,?_⟩
  ·intro i g o hg ho;obtain⟨_,hget,hcl⟩:=hsub i o ho;exact(hW.obj i g _ (hb0 i g hg).2 hget).cut hcl
  ·intro i j g k hg hk hi hj hr he;have pass:∀x,h0.get x≠none->(∀cs,h0.get x≠some (.dX cs))->∀cs,h.get x≠some (.dX cs):=λx hx q cs e=>by
    cases e0:h0.get x with
    |none=>exact hx e0
    |some o=>rw[(hsub x o e0).2.1]at e;exact q cs (by rw[e0];exact e)
   exact hW.inj i j g k (hb0 i g hg).2 (hb0 j k hk).2 (hlive i hi) (hlive j hj) (hr.imp (pass _ hi) (pass _ hj)) he
 have mP:=(VR.func hfr ha hcap).cut hfn;cases mP with
 |func Dn ha0 hcap0=>
 obtain⟨nx,F0,n1,n2,n3⟩:=hc (β.cut h0.next) w fn' args' cap' hG0 hW0 Dn ha0 hcap0;refine⟨nx,F0,n1,n2,λcs0 l6=>?_⟩;obtain⟨r,pm',h',β',w',r',cs1,q1,q2,q3,q4,q5,q6⟩:=n3 cs0 (by intro m hm;rw[hq]at hm;cases hm);obtain⟨hpm,rfl,hlow'⟩:=h1 r pm' h' q1;subst hpm;cases q4 with
 | @ok v v' jm=>
   have hvv:=VR.SB jm hv;subst hvv;have xE:WR P β h w':=by
    refine⟨hW.dom,hW.live,?_,hW.inj⟩;intro i g o hg ho;have hor:=hW.obj i g o hg ho;by_cases hb:∀j k,β.cut h0.next j=some k->h0.get j≠none->k.b≠g.b
    ·exact hor.congr (q3.keep g.b hor.lt hb)
    ·have hb:∃j k,β.cut h0.next j=some k/\h0.get j≠none/\k.b=g.b:=by
      apply Classical.byContradiction;intro hc;exact hb λj k hk hj hkb=>hc ⟨j,k,hk,hj,hkb⟩
     obtain⟨j,k,hk,hj,hkb⟩:=hb;cases e:h0.get j with
     |none=>exact absurd e hj
     |some o0=>
      obtain⟨hjn,hget,hcl⟩:=hsub j o0 e;have hij:i=j:=hW.inj i j g k hg (hb0 j k hk).2 (by rw[ho];simp) (by rw[hget];simp) (.inr (by rw[hget];intro cs e;cases e;cases hcl)) hkb.symm;subst hij;rw[hget]at ho;cases ho;have Dp:g=k:=by have:=(hb0 i k hk).2;rw[hg]at this;cases this;rfl
      subst Dp;have hk':h'.get i=some o:=by rw[q3.kept i (by rw[hlow'];exact hjn) hjn];exact e
      have Dq:=q2.obj i g _ (by rw[q3.agree i hjn];exact hk) hk';exact((hor.cut hcl).restrict (q3.le hW0.dom) Dq).mono (ai.Iu _ _)
   have hE:Eff β h w β h w':=
    {agree:=λ_ _=>rfl
     next:=az _
     alive:=λ_ _ hn=>hn
     hid:=λ_ _ _=>rfl
     low:=az _
     kept:=λ_ _ _=>rfl
     os:=q3.os,tape:=q3.tape,output:=q3.output,drawn:=q3.drawn,size:=q3.size
     keep:=λb hb hno=>q3.keep b hb λi g hg hn=>hno i g (hb0 i g hg).2 (hlive i hn)
     fresh:=λi g hg hi=>absurd (hW.dom i g hg) (by omega)
     jI:=λi g _ hi hg hn hgb=>by
      by_cases hb:∀j k,β.cut h0.next j=some k->h0.get j≠none->k.b≠g.b
      ·exact q3.keep g.b hgb hb
      ·have hb:∃j k,β.cut h0.next j=some k/\h0.get j≠none/\k.b=g.b:=by
        apply Classical.byContradiction;intro hc;exact hb λj k hk hj hkb=>hc ⟨j,k,hk,hj,hkb⟩
       obtain⟨j,k,hk,hj,hkb⟩:=hb;have hjn:=(hb0 j k hk).1;rw[<- hkb];exact q3.jI j k (by rw[hlow'];exact hjn) hjn hk hj (by rw[hkb];exact hgb)}
   exact⟨_,none,h,β,w',.returned v',cs1,hk,xE,hE,.ok (VR.Jz hv),by rw[hq]at q5⊢;cases q5;exact .none _,by
    rcases q6 with h6|h6
    ·exact .inl h6
    ·exact .inr h6⟩
theorem SE{P:Program}(mQ:P.follows .mixedOrders=true){l:List (Nat×aM)}{n fn:Nat}{args:List Value}{v:Value}(hv:tJ v=true)(hb:lm n args=true)(hl:l.all (λp=>Nat.blt p.1 n&&uD n p.2)=true)
 (hgl:P.globals.size<=n) (hc:CALL P ⟨.func fn,args,[],none⟩ ⟨heapT l,n,n⟩ (λr pm h'=>pm=none/\r=.ok v/\h'.low=n))
 {q:aQ} {h:IH} {v':Value} {h':IH} (hk:known l n fn args v q h=some (v',h')):CALL P q h (λr pm h2=>r=.ok v'/\pm=none/\h2=h'):=by
 unfold known at hk;split at hk
 ·rename_i f as;cases hcd:(Nat.beq f fn&&ik 5 (.tuple ⟨args⟩) (.tuple ⟨as⟩)&&Nat.ble n h.next&&sU l h)with
  |false=>rw[hcd]at hk;cases hk
  |true=>
   rw[hcd]at hk;simp only[cond,aj,aP]at hk;obtain⟨rfl,rfl⟩:=hk;simp only[di]at hcd;obtain⟨⟨⟨h1,h2⟩,h3⟩,h4⟩:=hcd;have h1:=eD h1;subst h1;have h2:=nS _ _ _ h2;injection h2 with h2;injection h2 with h2;subst h2;refine .real (SC ⟨heapT l,n,n⟩ v hv rfl ?_ hgl ?_ _ (Dr mQ hc) (λr pm h' h=>h) ⟨rfl,rfl,rfl⟩)
   ·show iE n (.func (.func f) ⟨args⟩ ⟨[]⟩)=true;simp[iE,lm,hb]
   ·intro i o ho;rcases sV l i with e|⟨o',e1,e2⟩
    ·exact absurd (ho.symm.trans e) (by simp)
    ·have:o'=o:=by have:=e2.symm.trans ho;simpa using this
     subst this;rw[iA]at hl;have:=hl _ e1;simp only[di]at this;exact⟨uU this.1,Dy h4 i o' e1,this.2⟩
 ·cases hk
