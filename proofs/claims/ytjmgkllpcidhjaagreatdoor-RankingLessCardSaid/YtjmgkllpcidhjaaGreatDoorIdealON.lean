/-
  The ideal machine, 72: conversions between integers, shifts of unsigned ones; arrays of numbers as keys.
-/
import Derived.Test.YtjmgkllpcidhjaaGreatDoorIdealNN
set_option linter.all false
namespace Go.Ideal
variable {P:Program}
theorem Ld{ρ:Operand->Value}{src dst:TypeId}{x:Operand}{kk k:IntKind}{n m:Int}{ds:TypeDesc}(hs:P.underlying src=some ds)(hd:P.underlying dst=some (.int k))(hx:ρ x=.int kk n)(hw:k.wrap n=m):Pu P ρ (.conv src dst x) (.int k m):=λh=>by
 have h1:dF P (convert src dst (.int kk n))=some (.int k m):=by
  unfold convert;rw[gW,sU hs];simp only[iA];rw[gW,sU hd];simp only[iA];rw[<- hw];rfl
 simp only[ak.run,hx,jZ,h1];rfl
theorem QW{α:Type}[DecidableEq α]{aS:α->Value}{kt:TypeId}{d:TypeDesc}(hu:P.underlying kt=some d)(hn:∀a b,Instr.sameNow d (aS a) (aS b)=none)(he:∀a b,dF P (Op.equal kt (aS a) (aS b))=some (decide (a=b)))(a:α)(aN:List (α×Value))(es:List MapEntry)(h:mV aS aN es):qp P kt (aS a) es=some (mU a aN 0):=by
 have abH:∀(aN:List (α×Value)) (es:List MapEntry) (i:Nat),mV aS aN es->dF P (Instr.findAsking kt (aS a) es i)=some (mU a aN i):=by
  intro aN;induction aN with
  |nil=>
   intro es i h;cases es with
   |nil=>rfl
   |cons e es=>cases h
  |cons p aN ih=>
   intro es i h;obtain⟨e,es',rfl,h1,h2,h3⟩:=KW h;unfold Instr.findAsking;rw[gW,h1,he];simp only[iA];unfold mU;by_cases hab:a=p.1
   ·rw[eH hab,if_pos hab,h2];rfl
   ·rw[gz hab,if_neg hab];exact ih es' (i+1) h3
 unfold qp Instr.findKey;rw[gW,sU hu];simp only[iA];cases aN with
 |nil=>
  cases es with
  |nil=>rfl
  |cons e es=>cases h
 |cons p aN=>
  have h':=h;obtain⟨e,es',rfl,h1,h2,h3⟩:=KW h;have:Instr.findNow d (aS a) (e::es') 0=none:=by
   show(match Instr.sameNow d (aS a) e.key with
   |some true=>some (some (0,e.val))
   |some false=>Instr.findNow d (aS a) es' 1
   |none=>none)=_
   rw[h1,hn]
  rw[this];exact abH _ _ _ h'
abbrev qM:Int×Int->Value:=λp=>.agg ⟨[.int .i64 p.1,.int .i64 p.2]⟩
theorem abI{kt e:TypeId}(hu:P.underlying kt=some (.array 2 e))(he:P.underlying e=some (.int .i64))(hs:P.info? e|>.map (·.size)|>(·=some 1))(hc:∀a b:Int,pJ P kt (.agg ⟨[.int .i64 a,.int .i64 b]⟩)=true):uQ P kt qM where
 tF a:=hc a.1 a.2
 find a aN es h:=QW hu (λa b=>rfl) (λa b=>by
  have:=Lc (d:=9998) (xs:=[a.1,a.2]) (ys:=[b.1,b.2]) hu he hs rfl rfl;rw[show decide (a=b)=decide ([a.1,a.2]=[b.1,b.2])from EB.2 ⟨λh=>by rw[h],λh=>by
   injection h with h1 h2;injection h2 with h2;exact Prod.ext h1 h2⟩]
  exact this) a aN es h
 same a:=by
  show((⟨[Value.int .i64 a.1,.int .i64 a.2]⟩:Array Value).size==(⟨[Value.int .i64 a.1,.int .i64 a.2]⟩:Array Value).size&&(List.zip [Value.int .i64 a.1,.int .i64 a.2] [Value.int .i64 a.1,.int .i64 a.2]).all λ(x,y)=>Instr.sameBits 9999 x y)=true;simp[Instr.sameBits]
end Go.Ideal
namespace Go.Ideal
section
variable {P:Program}
variable {ds:List Tmp} {rest:List aY} {n:Nat} {l:List (Nat×Value)} {D:List Deferred} {pm:Option FrameMode} {ro:Option Nat} {h:IH} {K:KO} {d:Nat} {g:Option (Tmp×Bool)}
theorem De{op:ak}{v:Value}{h':IH}{re:List fC}(hn:Nat.blt d n=true)(hg:bH l g=true)(hr:op.run P (ev l) h=some (v,h'))
 (hsm:∀q∈re,∃u h2,q.op.run P (ev ((d,v)::l)) h'=some (u,h2)/\∀d',q.dst=some d'->lk ((d,v)::l) d'=u)
 (next:aB P ds rest (act n ((d,v)::l) D pm ro) h' K):aB P ds (⟨⟨some d,g,op⟩,re⟩::rest) (act n l D pm ro) h K:=
 .jb (qF hg) v h' (by rw[jT];exact hr) (λq hq _=>by
  obtain⟨u,h2,e1,e2⟩:=hsm q hq;rw[l6 hn];exact⟨u,h2,by rw[jT];exact e1,λd' hd=>by rw[<- e2 d' hd];exact rJ _ _⟩) (by rw[l6 hn];exact next)
theorem QX{re:List fC}{e:TypeId}{size bytes b o m k:Nat}{f:Option Nat}{s x:Operand}{old xs:List Value}(hn:Nat.blt d n=true)(hg:bH l g=true)
 (hs:ev l s=.slice (some ⟨b,o,f⟩) m m) (hx:kE (ev l x)=some (k+1)) (hxs:j3 size (k+1) (ev l x) h=some xs) (hold:h.dK b o (m*size)=some old)
 (hf:f=some 0\/f=some size) (hm:(m+(k+1))*bytes<=1073741824/\(m+(k+1))*size<=1073741824/\m+(k+1)<=1073741824)
 (hsm:∀h',wC h h' b (.cells (old++xs))->∀q∈re,∃u h2,q.op.run P (ev ((d,.slice (some ⟨h.next,0,some size⟩) (m+(k+1)) (m+(k+1)))::l)) h'=some (u,h2)/\∀d',q.dst=some d'->lk ((d,.slice (some ⟨h.next,0,some size⟩) (m+(k+1)) (m+(k+1)))::l) d'=u)
 (next:∀h',wC h h' b (.cells (old++xs))->aB P ds rest (act n ((d,.slice (some ⟨h.next,0,some size⟩) (m+(k+1)) (m+(k+1)))::l) D pm ro) h' K):
 aB P ds (⟨⟨some d,g,.append e size bytes s x⟩,re⟩::rest) (act n l D pm ro) h K:=by
 have hle:∀{a b:Nat},a<=b->Nat.ble a b=true:=λh=>by rw[nu];exact h
 have hlt:Nat.ble (m+(k+1)) m=false:=by
  cases hb:Nat.ble (m+(k+1)) m with
  |false=>rfl
  |true=>have:=jY hb;omega
 have hc:(Nat.ble (Nat.mul (m+(k+1)) bytes) small&&Nat.ble (Nat.mul (m+(k+1)) size) small&&Nat.ble (m+(k+1)) small)=true:=by
  rw[hle (show Nat.mul (m+(k+1)) bytes<=small from hm.1),hle (show Nat.mul (m+(k+1)) size<=small from hm.2.1),hle (show m+(k+1)<=small from hm.2.2)];rfl
 have hrun:∃h',(ak.append e size bytes s x).run P (ev l) h=some (.slice (some ⟨h.next,0,some size⟩) (m+(k+1)) (m+(k+1)),h')/\wC h h' b (.cells (old++xs)):=by
  have x8:sI size (k+1) (ev l x) h=some xs:=hxs;simp only[ak.run,hx,x8,hs,nZ];have e1:j3 size m (.slice (some ⟨b,o,f⟩) m m) h=some old:=hold;show∃h',(cond (Nat.ble (Nat.mul (m+(k+1)) bytes) small&&Nat.ble (Nat.mul (m+(k+1)) size) small&&Nat.ble (m+(k+1)) small) _ _)=_/\_;rw[hc];show∃h',(cond (Nat.ble (m+(k+1)) m) _ _)=_/\_;rw[hlt];simp only[cond,e1];rcases hf with rfl|rfl
  ·refine⟨_,rfl,?_⟩;exact⟨rfl,λi hi _=>by rw[IH.gF,if_neg (by omega)],⟨qg _,by rw[IH.gF,if_pos rfl,gV]⟩,λ_=>rfl⟩
  ·cases size with
   |zero=>
    refine⟨_,rfl,?_⟩;exact⟨rfl,λi hi _=>by rw[IH.gF,if_neg (by omega)],⟨qg _,by rw[IH.gF,if_pos rfl,gV]⟩,λ_=>rfl⟩
   |succ j=>
    have hj:Nat.beq (Nat.succ j) (j+1)=true:=vO _;refine⟨(h.kill b).new (.cells (old++xs)),?_,?_⟩
    ·show cond (Nat.beq (Nat.succ j) (j+1)) _ _=_;rw[hj,gV];rfl
    ·exact⟨rfl,λi hi hb=>by rw[IH.gF,if_neg (by show i≠h.next;omega),IH.qy,if_neg hb],⟨qg _,by rw[IH.gF];exact if_pos rfl⟩,λhl=>by rw[IH.IP,IH.xN];omega⟩
 obtain⟨h',hr,hM⟩:=hrun;exact De hn hg hr (hsm h' hM) (next h' hM)
theorem QY{re:List fC}{e:TypeId}{size bytes k c:Nat}{s x:Operand}{xs:List Value}(hn:Nat.blt d n=true)(hg:bH l g=true)
 (hs:ev l s=.slice none 0 0) (hx:kE (ev l x)=some (k+1)) (hxs:j3 size (k+1) (ev l x) h=some xs)
 (hm:(k+1)*bytes<=1073741824/\(k+1)*size<=1073741824/\(k+1)<=1073741824)
 (hsm:∀h',Agree h h'->At h' h.next (.cells xs)->h'.next=h.next+1->∀q∈re,∃u h2,q.op.run P (ev ((d,.slice (some ⟨h.next,0,some size⟩) (k+1) (k+1))::l)) h'=some (u,h2)/\∀d',q.dst=some d'->lk ((d,.slice (some ⟨h.next,0,some size⟩) (k+1) (k+1))::l) d'=u)
 (next:∀h',Agree h h'->At h' h.next (.cells xs)->h'.next=h.next+1->aB P ds rest (act n ((d,.slice (some ⟨h.next,0,some size⟩) (k+1) (k+1))::l) D pm ro) h' K):
 aB P ds (⟨⟨some d,g,.append e size bytes s x⟩,re⟩::rest) (act n l D pm ro) h K:=by
 have hle:∀{a b:Nat},a<=b->Nat.ble a b=true:=λh=>by rw[nu];exact h
 have e0:Nat.add 0 (k+1)=k+1:=dD _;refine De hn hg (h':=h.new (.cells xs)) ?_ (hsm _ (JS _ _) (JU _ _) rfl) (next _ (JS _ _) (JU _ _) rfl);have x8:sI size (k+1) (ev l x) h=some xs:=hxs;simp only[ak.run,hx,x8,hs,nZ,e0];rw[hle (show Nat.mul (k+1) bytes<=small from hm.1),hle (show Nat.mul (k+1) size<=small from hm.2.1),hle (show k+1<=small from hm.2.2)];have e1:j3 size 0 (.slice none 0 0) h=some []:=by
  show(match (0:Nat)with|0=>some ([]:List Value)|_=>none)=_;rfl
 have e2:Nat.ble (k+1) 0=false:=rfl;simp only[Ik,cond_true,e2,cond_false,e1,gV,gL]
end
section
variable {P:Program}
variable {ρ:Operand->Value}
variable {B:List Nat} {w0:Wd} {kl kl':List OA} {F:List aK} {a:aR} {K:KO}
variable {y:cB} {i j m0:Nat} {I:Nat->aR->IH->Prop} {ch:List PanicEntry}
variable {B:List Nat} {w0:Wd} {kl kl':List OA} {F:List aK} {K:KO} {ds:List Tmp} {rest:List aY} {n:Nat} {l:List (Nat×Value)} {D:List Deferred} {pm:Option FrameMode} {ro:Option Nat} {d:Nat} {g:Option (Tmp×Bool)}
end
section
variable {P:Program} {B:List Nat} {w0:Wd} {kl kl' bK:List OA} {F:List aK} {K:KO} {n:Nat} {l:List (Nat×Value)} {D:List Deferred} {pm:Option FrameMode} {ro:Option Nat}
end
end Go.Ideal
namespace Go.Ideal
variable {P:Program}
section
variable {α κ:Type} [DecidableEq κ] {aS:κ->Value} {E:Enc α}
variable {B:List Nat} {w0:Wd} {kl kl' bK k1 k2:List OA} {F:List aK} {Q:IH->Prop} {b:Nat} {m:List (κ×List α)}
end
end Go.Ideal
namespace Go.Ideal
variable {P:Program} {B:List Nat} {w0:Wd} {kl kl' bK:List OA} {F:List aK} {K:KO} {ds:List Tmp} {rest:List aY} {n:Nat} {l:List (Nat×Value)} {D:List Deferred} {pm:Option FrameMode} {ro:Option Nat} {d:Nat} {g:Option (Tmp×Bool)}
end Go.Ideal
namespace Go.Ideal
variable {P:Program} {B:List Nat} {w0:Wd} {kl kl' bK k1 k2:List OA} {F:List aK} {Q:IH->Prop}
section
variable {β:Type} (A:Value->β->OA)
end
theorem QZ{A A':OA}(e:A=A')(h:R Q B w0 (A'::kl') F)(hk:ai A kl kl':=by exact fM):R Q B w0 kl F:=by
 subst e;exact λw s=>h w (s.fe hk)
end Go.Ideal
namespace Go.Ideal
variable {P:Program}
theorem bD.facts{Y:Type}{fn:Fn}{args cap:List Value}{kl:List OA}{F F2:List aK}{val:Y->Value}{kl':Y->List OA}{fs:Y->List aK}{pr:Y->Prop}(h:bD P fn args cap kl F val kl' fs pr)(hF:∀f∈F,f∈F2):bD P fn args cap kl F2 val kl' fs pr:=
 λB w s=>h B w ⟨s.agree,s.le,s.eO,s.own,λf hf=>s.facts f (hF f hf)⟩
section
variable {B:List Nat} {w0:Wd} {kl kl' bK:List OA} {F:List aK} {K:KO} {n:Nat} {l:List (Nat×Value)} {D:List Deferred} {pm:Option FrameMode} {ro:Option Nat}
end
section
variable {B:List Nat} {w0:Wd} {kl:List OA} {F:List aK}
end
end Go.Ideal
namespace Go.Ideal
variable {P:Program} {B:List Nat} {w0:Wd} {kl kl' bK:List OA} {F:List aK} {K:KO} {ds:List Tmp} {rest:List aY} {n:Nat} {l:List (Nat×Value)} {D:List Deferred} {pm:Option FrameMode} {ro:Option Nat} {d:Nat} {g:Option (Tmp×Bool)}
theorem abJ{e:TypeId}{size bytes:Nat}{zero:List Value}{s x:Operand}(m:Nat)(h0:0<m)(hm:m*bytes<=1073741824/\m*size<=1073741824/\m<=1073741824)
 (next:∀b,R (λh=>aB P ds rest (act n ((d,.slice (some ⟨b,0,some size⟩) m m)::l) D pm ro) h K) B w0 (pt b (.cells (zeros zero m))::kl) F)
 (hs:ev l s=.slice none 0 0:=by rfl) (hx:ev l x=.int .i64 (m:Int):=by rfl) (hn:Nat.blt d n=true:=by rfl) (hg:bH l g=true:=by rfl):
 R (λh=>aB P ds (⟨⟨some d,g,.zn e size bytes zero s x⟩,[]⟩::rest) (act n l D pm ro) h K) B w0 kl F:=λw st=>by
 have hle:∀{a b:Nat},a<=b->Nat.ble a b=true:=λh=>by rw[nu];exact h
 refine iH hn hg (v:=.slice (some ⟨w.h.next,0,some size⟩) m m) (h':=w.h.new (.cells (zeros zero m))) ?_ (next w.h.next (w.new _) (st.new _));obtain⟨k,rfl⟩:∃k,m=k+1:=⟨m - 1,by omega⟩
 have hx':ev l x=.int .i64 (.ofNat (k+1)):=hx;simp only[ak.run,hx',hs];have e1:(Nat.ble (Nat.mul (k+1) bytes) small&&Nat.ble (Nat.mul (k+1) size) small&&Nat.ble (k+1) small)=true:=by
  rw[hle (show Nat.mul (k+1) bytes<=small from hm.1),hle (show Nat.mul (k+1) size<=small from hm.2.1),hle (show k+1<=small from hm.2.2)];rfl
 rw[e1];rfl
theorem Lf{cs1 cs2 xs:List Value}(h:xs.length<=cs2.length):fU (cs1++cs2) cs1.length xs=some (cs1++(xs++cs2.drop xs.length)):=by
 obtain⟨r,hr⟩:=Dc (cs1++cs2) cs1.length xs (by rw[dW];omega);obtain⟨h1,h2,h3⟩:=BN hr;rw[hr];congr 1;apply jA;intro j;rw[h3 j];by_cases c1:j<cs1.length
 ·rw[if_neg (by omega),kD c1,kD c1]
 ·by_cases c2:j<cs1.length+xs.length
  ·rw[if_pos ⟨by omega,c2⟩,pq (by omega),kD (by omega)]
  ·rw[if_neg (by omega),pq (by omega),pq (by omega),pq (by omega),jy];congr 1;omega
theorem Q0{α:Type}{E:Enc α}{v:Value}{aa:List (α×E.Y)}{w:Wd}(h:(tH E v aa).p w):kE v=some aa.length/\sI E.n aa.length v w.h=some (aW E aa):=by
 rcases h with⟨rfl,a,c,rfl,_⟩|⟨i,o,f,c,cells,⟨e1,hc⟩,q2,q3⟩
 ·exact⟨rfl,rfl⟩
 subst e1;refine⟨rfl,?_⟩;by_cases hne:aa=[]
 ·subst hne;rfl
 obtain⟨k,hk'⟩:∃k,aa.length=k+1:=⟨aa.length - 1,by have:=o9.2 hne;omega⟩
 have hfl:=qL aa;have hcells:∀j,j<aa.length*E.n->cells[o+j]? =(aW E aa)[j]?:=λj hj=>by
  have hn0:0<E.n:=by
   rcases y9 E.n with h0|h0
   ·rw[h0]at hj;omega
   ·exact h0
  have hd:j/E.n<aa.length:=by rw[Im hn0];exact hj
  have hmod:=ul j hn0;have hpk:=bf hd;have hu:(E.pat (aa[j/E.n]).1 (aa[j/E.n]).2)[j%E.n]? =some ((E.pat (aa[j/E.n]).1 (aa[j/E.n]).2)[j%E.n]'(by rw[E.len];exact hmod)):=bf _;have h1:=(q3 (j/E.n) _ hpk).1 (j%E.n) _ hu;have h2:=yo hpk hu;have rM:j/E.n*E.n+j%E.n=j:=by rw[xn];exact Io j E.n
  rw[lS,rM]at h1;rw[rM]at h2;rw[h1,h2]
 have hlen:o+aa.length*E.n<=cells.length\/aa.length*E.n=0:=by
  rcases y9 (aa.length*E.n)with h0|h0
  ·exact .inr h0
  ·left;have h1:=hcells (aa.length*E.n - 1) (by omega);have hx0:(aW E aa)[aa.length*E.n - 1]? =some ((aW E aa)[aa.length*E.n - 1]'(by omega)):=bf _;rw[hx0]at h1;have:=(dX.1 h1).1;omega
 have hread:w.h.dK i o (aa.length*E.n)=some (aW E aa)\/(aa.length*E.n=0):=by
  rcases hlen with hlen|hlen
  ·left;rw[q2.cells.dK,j5,j6,if_pos (by rw[jR];omega)];congr 1;apply jA;intro j;rw[qi];by_cases hj:j<aa.length*E.n
   ·rw[if_pos hj,jy];exact hcells j hj
   ·rw[if_neg hj,ig (by omega)]
  ·exact .inr hlen
 have hread:w.h.dK i o (aa.length*E.n)=some (aW E aa):=by
  rcases hread with h|h
  ·exact h
  ·have hf0:aW E aa=[]:=sD.1 (by omega);rw[h,q2.cells.dK,j6,if_pos (bF _),hf0];rfl
 rw[hk']at hread⊢;exact hread
theorem abK{α:Type}{e:TypeId}{size bytes b m cap:Nat}{f:Option Nat}{s x:Operand}{v:Value}(E:Enc α)(aa:List (α×E.Y))(cs1 cs2:List Value)(h1:cs1.length=m*E.n)(h2:aa.length*E.n<=cs2.length)(hc:m+aa.length<=cap)
 (hm:(m+aa.length)*bytes<=1073741824/\(m+aa.length)*size<=1073741824/\(m+aa.length)<=1073741824)
 (next:R (λh=>aB P ds rest (act n ((d,.slice (some ⟨b,0,f⟩) (m+aa.length) cap)::l) D pm ro) h K) B w0 (pt b (.cells (cs1++(aW E aa++cs2.drop (aa.length*E.n))))::kl') F)
 (hs:ev l s=.slice (some ⟨b,0,f⟩) m cap:=by rfl) (hx:ev l x=v:=by conv=>lhs;whnf) (hf:tH E v aa∈F:=by exact oF) (hz:E.n=size:=by rfl) (hk:ai (pt b (.cells (cs1++cs2))) kl kl':=by exact fM) (hn:Nat.blt d n=true:=by rfl) (hg:bH l g=true:=by rfl):
 R (λh=>aB P ds (⟨⟨some d,g,.append e size bytes s x⟩,[]⟩::rest) (act n l D pm ro) h K) B w0 kl F:=λw st=>by
 subst hz;have hle:∀{a b:Nat},a<=b->Nat.ble a b=true:=λh=>by rw[nu];exact h
 have st1:=st.fe hk;obtain⟨r1,r2⟩:=Q0 (st.facts _ hf);have hfl:=qL aa;have hlv:fU (cs1++cs2) cs1.length (aW E aa)=some (cs1++(aW E aa++cs2.drop (aa.length*E.n))):=by
  rw[Lf (by omega),hfl]
 refine iH hn hg (v:=.slice (some ⟨b,0,f⟩) (m+aa.length) cap) (h':=w.h.set b (.cells (cs1++(aW E aa++cs2.drop (aa.length*E.n))))) ?_ (next ⟨w.h.set b _,w.z,λi hi=>w.iN i hi⟩ st1.write);have e1:w.h.storeAt b (Nat.add 0 (Nat.mul m E.n)) (aW E aa)=some (w.h.set b (.cells (cs1++(aW E aa++cs2.drop (aa.length*E.n))))):=by
  unfold IH.storeAt;simp only[st1.get.1];rw[show Nat.add 0 (Nat.mul m E.n)=cs1.length by rw[h1];exact dD _,hlv]
 simp only[ak.run,hx,hs,r1,r2,nZ];show cond (Nat.ble (Nat.mul (m+aa.length) bytes) small&&Nat.ble (Nat.mul (m+aa.length) E.n) small&&Nat.ble (m+aa.length) small) (cond (Nat.ble (m+aa.length) cap) (match w.h.storeAt b (Nat.add 0 (Nat.mul m E.n)) (aW E aa)with|some h=>some (Value.slice (some ⟨b,0,f⟩) (m+aa.length) cap,h)|none=>none) _) none=_;rw[hle (show Nat.mul (m+aa.length) bytes<=small from hm.1),hle (show Nat.mul (m+aa.length) E.n<=small from hm.2.1),hle (show m+aa.length<=small from hm.2.2),hle hc,e1];rfl
theorem abL{ρ:Operand->Value}{x hi:Operand}{b m c k:Nat}(hx:ρ x=.slice (some ⟨b,0,some (k+1)⟩) m c)(hh:ρ hi=.int .i64 (0:Int)):Pu P ρ (.ny (k+1) x none (some hi) none) (.slice (some ⟨b,0,some (k+1)⟩) 0 c):=λh=>by
 simp only[ak.run,hx];show(match bounds? m c none (some (ρ hi)) none with|some (l,hh,m)=>cond (Nat.beq (Nat.succ k) (k+1)) (some (Value.slice (some ⟨b,Nat.add 0 (Nat.mul l (k+1)),some (Nat.succ k)⟩) (Nat.sub hh l) (Nat.sub m l),h)) none|none=>none)=_;rw[hh];have e1:bounds? m c none (some (.int .i64 (0:Int))) none=some (0,0,c):=rfl;rw[e1];show cond (Nat.beq (Nat.succ k) (k+1)) (some (Value.slice (some ⟨b,Nat.add 0 (Nat.mul 0 (k+1)),some (Nat.succ k)⟩) (Nat.sub 0 0) (Nat.sub c 0),h)) none=_;rw[show Nat.beq (Nat.succ k) (k+1)=true from vO _,show Nat.mul 0 (k+1)=0 from pF _];rfl
theorem Q3{ρ:Operand->Value}{x hi:Operand}{k c:Nat}(hx:ρ x=.slice none 0 c)(hh:ρ hi=.int .i64 (0:Int)):Pu P ρ (.ny k x none (some hi) none) (.slice none 0 c):=λh=>by
 simp only[ak.run,hx];show(match bounds? 0 c none (some (ρ hi)) none with|some (l,hh,m)=>some (Value.slice none (Nat.sub hh l) (Nat.sub m l),h)|none=>none)=_;rw[hh];have e1:bounds? 0 c none (some (.int .i64 (0:Int))) none=some (0,0,c):=rfl;rw[e1];rfl
theorem Q4{ρ:Operand->Value}{s x:Operand}{e:TypeId}{size bytes c:Nat}{a:Option Addr}(hs:ρ s=.slice none 0 0)(hx:ρ x=.slice a 0 c):Pu P ρ (.append e size bytes s x) (.slice none 0 0):=λh=>by
 simp only[ak.run,hx,hs];show nZ size bytes (.slice none 0 0) 0 [] h=_;unfold nZ;have h0:∀m,Nat.mul (Nat.add 0 0) m=0:=λm=>pF m;show cond (Nat.ble (Nat.mul (Nat.add 0 0) bytes) small&&Nat.ble (Nat.mul (Nat.add 0 0) size) small&&Nat.ble (Nat.add 0 0) small) (cond (Nat.ble (Nat.add 0 0) 0) (some (Value.slice none (Nat.add 0 0) 0,h)) _) none=_;rw[h0,h0];rfl
theorem Q5{ρ:Operand->Value}{x:Operand}(hx:ρ x=.slice none 0 0):Pu P ρ (.BA x) (.int .i64 0):=λh=>by
 simp only[ak.run,hx];rfl
end Go.Ideal
namespace Go.Ideal
open Go.RowKit Go.WideShapes Go.ChangeShapes
variable {P:Program}
theorem abM(l5:P.follows .mixedOrders=true){f:FuncId}(fn:Func)(hfn:P.funcs[f]? =some fn)(hbody:fn.body.isNone=false)(hname:(fn.name== "runtime.NumGoroutine")=false){args args':List Value}{L:Lay}{w:World}{v:Value}(abN:jg P (iI L))
 (hL:∀(i:Nat) g cs,L[i]? =some (some g,some cs)->zY L w g cs) (hargs:aJ (iI L) args args') (hv:bY v=true)
 (hc:CALL P ⟨.func f,args,[],none⟩ (iV L) (λr pm h'=>pm=none/\r=.ok v/\Agree (iV L) h')):
 Calls P f ⟨args'⟩ w (λe w'=>e=.returned v/\Below w.heap.size w w'):=by
 have hM:=Fh l5 hc;have hW:WR P (iI L) (iV L) w:=ZM hL;obtain⟨nx,F0,n1,n2,n3⟩:=hM (iI L) w (.func f) args' [] abN hW (.func f) hargs .nil;have hnx:nx=.enter f ⟨args'⟩:=by
  have hcall:(callFunc f ⟨args'⟩).run P w=.ok (.enter f ⟨args'⟩) w:=by
   simp only[callFunc,bP,run_program,bR,hfn,hname,hbody,um,if_false,dB]
  have e:(⟨args'⟩:Array Value)++(⟨[]⟩:Array Value)=⟨args'⟩:=by apply Array.ext';simp
  have n1:(invoke (.fn (.func f) ⟨[]⟩) ⟨args'⟩).run P w=.ok nx w:=n1;simp only[invoke,e]at n1;rw[hcall]at n1;cases n1;rfl
 subst hnx;have sW:F0=Frame.enter P f ⟨args'⟩ .normal:=by
  have:entry P .normal (.enter f ⟨args'⟩)=some (Frame.enter P f ⟨args'⟩ .normal):=rfl;have n2:entry P .normal (.enter f ⟨args'⟩)=some F0:=n2;rw[this]at n2;exact(Option.some.inj n2).symm
 subst sW;intro cs;obtain⟨r,pm',h',β',w',r',cs1,q1,q2,q3,q4,q5,q6⟩:=n3 cs (by intro m hm;cases hm);obtain⟨hp,rfl,hag⟩:=q1;cases q5;cases q4 with
 | @ok v v' kL=>
   have:=kL.lg hv;subst this;rcases q6 with⟨f1,a1,F1,e1,e2,e3,e4,e5⟩|⟨⟨_,l,e1⟩,_⟩
   ·cases e1;refine⟨.returned v',w',F1,⟨rfl,?_⟩,e2,e3,?_⟩
    ·refine⟨q3.os,q3.tape,q3.output,q3.size,λk hk=>?_⟩;by_cases hx:∀i g,iI L i=some g->(iV L).get i≠none->g.b≠k
     ·exact q3.keep k hk hx
     ·have hx:∃i g,iI L i=some g/\(iV L).get i≠none/\g.b=k:=by
       apply Classical.byContradiction;intro hc;exact hx λi g hi hg hb=>hc ⟨i,g,hi,hg,hb⟩
      obtain⟨i,g,hi,hg,rfl⟩:=hx;have hin:=hW.dom i g hi;exact q3.lW i g (by rw[hag.low (aH _)];exact hin) hin hi hg hk
    ·obtain⟨t1,t2,fn,t3,t4⟩:=e5;exact⟨t1,t2,e4,fn,t3,t4⟩
   ·cases e1
section
variable {H:Type} {enc:TypeId×Value->H} {W:World}
end
def uR(n:Nat):aK:=⟨λw=>n<=w.h.next,λa h=>dz h a.next⟩
theorem abO{f:FuncId}{v:Value}{n:Nat}(hs:∀h:IH,n<=h.next->CALL P ⟨.func f,[],[],none⟩ h (λr pm h'=>pm=none/\r=.ok v/\h'=h)):eY P f [] [uR n] v:=λB w s=>
 .uK _ (hs w.h (s.facts (uR n) (di.2 rfl))) (by rintro r pm h' ⟨rfl,rfl,rfl⟩;exact⟨rfl,w,(),rfl,⟨s.agree,s.le,s.eO,s.own,λf h=>by cases h⟩,rfl,trivial⟩)
end Go.Ideal
namespace Go.Ideal
variable {P:Program}
def yx:Value->Bool
 | .tuple ⟨c::cs⟩=>bY c&&cs.all bY
 | .tuple _=>false
 |v=>bY v
theorem aJ.Q6{β:az}:∀{l:List Value},l.all bY=true->aJ β l l
 |[],_=>.nil
 |v::l,h=>by
  rw[xm,eG]at h;exact .cons (VR.free h.1) (aJ.Q6 h.2)
theorem aJ.F6{β:az}:∀{l l':List Value},aJ β l l'->l.all bY=true->l'=l
 |_,_,.nil,_=>rfl
 |_,_,.cons h1 h2,h=>by
  rw[xm,eG]at h;rw[h1.lg h.1,aJ.F6 h2 h.2]
theorem VR.Q7{β:az}{v:Value}(h:yx v=true):VR β v v:=by
 unfold yx at h;split at h
 ·rename_i c cs;exact .tuple (aJ.Q6 (by rw[xm];exact h))
 ·cases h
 ·exact VR.free h
theorem VR.abP{β:az}{v v':Value}(hr:VR β v v')(h:yx v=true):v'=v:=by
 unfold yx at h;split at h
 ·rename_i c cs;cases hr with
  |tuple hl=>rw[aJ.F6 hl (by rw[xm];exact h)]
 ·cases h
 ·exact hr.lg h
theorem abQ{q:bQ}{h:IH}{K:KR}(h0:IH)(v:Value)(hv:yx v=true)(hq:q.pm=none)(hfn:kK h0.next (.func q.fn ⟨q.args⟩ ⟨q.captured⟩)=true)
 (hgl:P.globals.size<=h0.next)
 (hsub:∀i o,h0.get i=some o->i<h0.next/\h.get i=some o/\zA h0.next o=true)
 (M:KR) (hc:iG P q h0 M) (h1:∀r pm h',M r pm h'->pm=none/\r=.ok v/\h'.low=h0.next)
 (hk:K (.ok v) none h):iG P q h K:=by
 intro β w fn' args' cap' hG hW hfr ha hcap;have hb0:∀i g,β.cut h0.next i=some g->i<h0.next/\β i=some g:=λi g hg=>by
  simp only[az.cut]at hg;split at hg
  ·rename_i hi;exact⟨hi,hg⟩
  ·cases hg
 have hb1:∀i,i<h0.next->β.cut h0.next i=β i:=λi hi=>az.zS hi
 have hG0:jg P (β.cut h0.next):=λg hg=>by
  obtain⟨i,h1,h2⟩:=hG g hg;exact⟨i,by rw[hb1 g (jP hg hgl)];exact h1,h2⟩
 have hlive:∀i,h0.get i≠none->h.get i≠none:=λi hi=>by
  cases e:h0.get i with
  |none=>exact absurd e hi
  |some o=>rw[(hsub i o e).2.1];simp
 have hW0:WR P (β.cut h0.next) h0 w:=by
  refine⟨λi g hg=>(hb0 i g hg).1,λi o ho=>(hsub i o ho).1,?_,?_⟩
  ·intro i g o hg ho;obtain⟨_,hget,hcl⟩:=hsub i o ho;exact(hW.obj i g _ (hb0 i g hg).2 hget).cut hcl
  ·intro i j g k hg hk hi hj hr he;have pass:∀x,h0.get x≠none->(∀cs,h0.get x≠some (.fP cs))->∀cs,h.get x≠some (.fP cs):=λx hx q cs e=>by
    cases e0:h0.get x with
    |none=>exact hx e0
    |some o=>rw[(hsub x o e0).2.1]at e;exact q cs (by rw[e0];exact e)
   exact hW.inj i j g k (hb0 i g hg).2 (hb0 j k hk).2 (hlive i hi) (hlive j hj) (hr.imp (pass _ hi) (pass _ hj)) he
 have rG:=(VR.func hfr ha hcap).cut hfn;cases rG with
 |func JJ ha0 hcap0=>
 obtain⟨nx,F0,n1,n2,n3⟩:=hc (β.cut h0.next) w fn' args' cap' hG0 hW0 JJ ha0 hcap0;refine⟨nx,F0,n1,n2,λcs0 oz=>?_⟩;obtain⟨r,pm',h',β',w',r',cs1,q1,q2,q3,q4,q5,q6⟩:=n3 cs0 (by intro m hm;rw[hq]at hm;cases hm);obtain⟨hpm,rfl,hlow'⟩:=h1 r pm' h' q1;subst hpm;cases q4 with
 | @ok v v' kL=>
   have hvv:=VR.abP kL hv;subst hvv;have Cy:WR P β h w':=by
    refine⟨hW.dom,hW.live,?_,hW.inj⟩;intro i g o hg ho;have hor:=hW.obj i g o hg ho;by_cases hb:∀j k,β.cut h0.next j=some k->h0.get j≠none->k.b≠g.b
    ·exact hor.congr (q3.keep g.b hor.lt hb)
    ·have hb:∃j k,β.cut h0.next j=some k/\h0.get j≠none/\k.b=g.b:=by
      apply Classical.byContradiction;intro hc;exact hb λj k hk hj hkb=>hc ⟨j,k,hk,hj,hkb⟩
     obtain⟨j,k,hk,hj,hkb⟩:=hb;cases e:h0.get j with
     |none=>exact absurd e hj
     |some o0=>
      obtain⟨hjn,hget,hcl⟩:=hsub j o0 e;have hij:i=j:=hW.inj i j g k hg (hb0 j k hk).2 (by rw[ho];simp) (by rw[hget];simp) (.inr (by rw[hget];intro cs e;cases e;cases hcl)) hkb.symm;subst hij;rw[hget]at ho;cases ho;have JK:g=k:=by have:=(hb0 i k hk).2;rw[hg]at this;cases this;rfl
      subst JK;have hk':h'.get i=some o:=by rw[q3.kept i (by rw[hlow'];exact hjn) hjn];exact e
      have JL:=q2.obj i g _ (by rw[q3.agree i hjn];exact hk) hk';exact((hor.cut hcl).restrict (q3.le hW0.dom) JL).mono (az.Py _ _)
   have hE:Eff β h w β h w':=
    {agree:=λ_ _=>rfl
     next:=aH _
     alive:=λ_ _ hn=>hn
     hid:=λ_ _ _=>rfl
     low:=aH _
     kept:=λ_ _ _=>rfl
     os:=q3.os,tape:=q3.tape,output:=q3.output,drawn:=q3.drawn,size:=q3.size
     keep:=λb hb hno=>q3.keep b hb λi g hg hn=>hno i g (hb0 i g hg).2 (hlive i hn)
     fresh:=λi g hg hi=>absurd (hW.dom i g hg) (by omega)
     lW:=λi g _ hi hg hn hgb=>by
      by_cases hb:∀j k,β.cut h0.next j=some k->h0.get j≠none->k.b≠g.b
      ·exact q3.keep g.b hgb hb
      ·have hb:∃j k,β.cut h0.next j=some k/\h0.get j≠none/\k.b=g.b:=by
        apply Classical.byContradiction;intro hc;exact hb λj k hk hj hkb=>hc ⟨j,k,hk,hj,hkb⟩
       obtain⟨j,k,hk,hj,hkb⟩:=hb;have hjn:=(hb0 j k hk).1;rw[<- hkb];exact q3.lW j k (by rw[hlow'];exact hjn) hjn hk hj (by rw[hkb];exact hgb)}
   exact⟨_,none,h,β,w',.returned v',cs1,hk,Cy,hE,.ok (VR.Q7 hv),by rw[hq]at q5⊢;cases q5;exact .none _,by
    rcases q6 with h6|h6
    ·exact .inl h6
    ·exact .inr h6⟩
theorem abR{P:Program}(l5:P.follows .mixedOrders=true){l:List (Nat×bB)}{n fn:Nat}{args:List Value}{v:Value}(hv:yx v=true)(hb:pQ n args=true)(hl:l.all (λp=>Nat.blt p.1 n&&zA n p.2)=true)
 (hgl:P.globals.size<=n) (hc:CALL P ⟨.func fn,args,[],none⟩ ⟨heapT l,n,n⟩ (λr pm h'=>pm=none/\r=.ok v/\h'.low=n))
 {q:bQ} {h:IH} {v':Value} {h':IH} (hk:known l n fn args v q h=some (v',h')):CALL P q h (λr pm h2=>r=.ok v'/\pm=none/\h2=h'):=by
 unfold known at hk;split at hk
 ·rename_i f as;cases hcd:(Nat.beq f fn&&j4 5 (.tuple ⟨args⟩) (.tuple ⟨as⟩)&&Nat.ble n h.next&&xW l h)with
  |false=>rw[hcd]at hk;cases hk
  |true=>
   rw[hcd]at hk;simp only[cond,aA,bM]at hk;obtain⟨rfl,rfl⟩:=hk;simp only[eG]at hcd;obtain⟨⟨⟨h1,h2⟩,h3⟩,h4⟩:=hcd;have h1:=fZ h1;subst h1;have h2:=sS _ _ _ h2;injection h2 with h2;injection h2 with h2;subst h2;refine .real (abQ ⟨heapT l,n,n⟩ v hv rfl ?_ hgl ?_ _ (Fh l5 hc) (λr pm h' h=>h) ⟨rfl,rfl,rfl⟩)
   ·show kK n (.func (.func f) ⟨args⟩ ⟨[]⟩)=true;simp[kK,pQ,hb]
   ·intro i o ho;rcases xX l i with e|⟨o',e1,e2⟩
    ·exact absurd (ho.symm.trans e) (by simp)
    ·have:o'=o:=by have:=e2.symm.trans ho;simpa using this
     subst this;rw[iB]at hl;have:=hl _ e1;simp only[eG]at this;exact⟨zT this.1,JR h4 i o' e1,this.2⟩
 ·cases hk
