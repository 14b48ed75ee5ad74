/-
  The ideal machine, 72: conversions between integers, shifts of unsigned ones; arrays of numbers as keys.
-/
import Derived.Test.YtoohgkkmdnbnfaaGreatDoorIdealNG
set_option linter.all false
namespace Go.Ideal
variable {P:Program}
theorem Ao{ρ:Operand->Value}{src dst:TypeId}{x:Operand}{kk k:IntKind}{n m:Int}{ds:TypeDesc}(hs:P.underlying src=some ds)(hd:P.underlying dst=some (.int k))(hx:ρ x=.int kk n)(hw:k.wrap n=m):Pu P ρ (.conv src dst x) (.int k m):=λh=>by
 have h1:bQ P (convert src dst (.int kk n))=some (.int k m):=by
  unfold convert;rw[gP,wH hs];simp only[gW];rw[gP,wH hd];simp only[gW];rw[<- hw];rfl
 simp only[ai.run,hx,eY,h1];rfl
theorem NC{a:Nat}(h:a<18446744073709551616):IntKind.u64.wrap (a:Int)=a:=by
 show(let m:=(a:Int)%(2^64:Int);if false&&m>=(2^63:Int)then m - (2^64:Int)else m)=_;simp only[Bool.false_and,kI,if_false];rw[Int.emod_eq_of_lt (by omega) (by simpa using(by omega:(a:Int)<18446744073709551616))]
end Go.Ideal
namespace Go.Ideal
section
variable {P:Program}
variable {ds:List Tmp} {rest:List aC} {n:Nat} {l:List (Nat×Value)} {D:List Deferred} {pm:Option FrameMode} {ro:Option Nat} {h:IH} {K:KO} {d:Nat} {g:Option (Tmp×Bool)}
theorem E9{op:ai}{v:Value}{h':IH}{re:List bS}(hn:Nat.blt d n=true)(hg:aT l g=true)(hr:op.run P (ev l) h=some (v,h'))
 (hsm:∀q∈re,∃u h2,q.op.run P (ev ((d,v)::l)) h'=some (u,h2)/\∀d',q.dst=some d'->lk ((d,v)::l) d'=u)
 (next:aj P ds rest (act n ((d,v)::l) D pm ro) h' K):aj P ds (⟨⟨some d,g,op⟩,re⟩::rest) (act n l D pm ro) h K:=
 .eF (oL hg) v h' (by rw[gU];exact hr) (λq hq _=>by
  obtain⟨u,h2,e1,e2⟩:=hsm q hq;rw[ja hn];exact⟨u,h2,by rw[gU];exact e1,λd' hd=>by rw[<- e2 d' hd];exact ku _ _⟩) (by rw[ja hn];exact next)
theorem ND{re:List bS}{e:TypeId}{size bytes b o m k:Nat}{f:Option Nat}{s x:Operand}{old xs:List Value}(hn:Nat.blt d n=true)(hg:aT l g=true)
 (hs:ev l s=.slice (some ⟨b,o,f⟩) m m) (hx:gM (ev l x)=some (k+1)) (hxs:gy size (k+1) (ev l x) h=some xs) (hold:h.bI b o (m*size)=some old)
 (hf:f=some 0\/f=some size) (hm:(m+(k+1))*bytes<=1073741824/\(m+(k+1))*size<=1073741824/\m+(k+1)<=1073741824)
 (hsm:∀h',qp h h' b (.cells (old++xs))->∀q∈re,∃u h2,q.op.run P (ev ((d,.slice (some ⟨h.next,0,some size⟩) (m+(k+1)) (m+(k+1)))::l)) h'=some (u,h2)/\∀d',q.dst=some d'->lk ((d,.slice (some ⟨h.next,0,some size⟩) (m+(k+1)) (m+(k+1)))::l) d'=u)
 (next:∀h',qp h h' b (.cells (old++xs))->aj P ds rest (act n ((d,.slice (some ⟨h.next,0,some size⟩) (m+(k+1)) (m+(k+1)))::l) D pm ro) h' K):
 aj P ds (⟨⟨some d,g,.append e size bytes s x⟩,re⟩::rest) (act n l D pm ro) h K:=by
 have hle:∀{a b:Nat},a<=b->Nat.ble a b=true:=λh=>by rw[lG];exact h
 have hlt:Nat.ble (m+(k+1)) m=false:=by
  cases hb:Nat.ble (m+(k+1)) m with
  |false=>rfl
  |true=>have:=dN hb;omega
 have hc:(Nat.ble (Nat.mul (m+(k+1)) bytes) small&&Nat.ble (Nat.mul (m+(k+1)) size) small&&Nat.ble (m+(k+1)) small)=true:=by
  rw[hle (show Nat.mul (m+(k+1)) bytes<=small from hm.1),hle (show Nat.mul (m+(k+1)) size<=small from hm.2.1),hle (show m+(k+1)<=small from hm.2.2)];rfl
 have hrun:∃h',(ai.append e size bytes s x).run P (ev l) h=some (.slice (some ⟨h.next,0,some size⟩) (m+(k+1)) (m+(k+1)),h')/\qp h h' b (.cells (old++xs)):=by
  have sZ:mU size (k+1) (ev l x) h=some xs:=hxs;simp only[ai.run,hx,sZ,hs,lI];have e1:gy size m (.slice (some ⟨b,o,f⟩) m m) h=some old:=hold;show∃h',(cond (Nat.ble (Nat.mul (m+(k+1)) bytes) small&&Nat.ble (Nat.mul (m+(k+1)) size) small&&Nat.ble (m+(k+1)) small) _ _)=_/\_;rw[hc];show∃h',(cond (Nat.ble (m+(k+1)) m) _ _)=_/\_;rw[hlt];simp only[cond,e1];rcases hf with rfl|rfl
  ·refine⟨_,rfl,?_⟩;exact⟨rfl,λi hi _=>by rw[IH.bT,if_neg (by omega)],⟨mJ _,by rw[IH.bT,if_pos rfl,dH]⟩,λ_=>rfl⟩
  ·cases size with
   |zero=>
    refine⟨_,rfl,?_⟩;exact⟨rfl,λi hi _=>by rw[IH.bT,if_neg (by omega)],⟨mJ _,by rw[IH.bT,if_pos rfl,dH]⟩,λ_=>rfl⟩
   |succ j=>
    have hj:Nat.beq (Nat.succ j) (j+1)=true:=nS _;refine⟨(h.kill b).new (.cells (old++xs)),?_,?_⟩
    ·show cond (Nat.beq (Nat.succ j) (j+1)) _ _=_;rw[hj,dH];rfl
    ·exact⟨rfl,λi hi hb=>by rw[IH.bT,if_neg (by show i≠h.next;omega),IH.jA,if_neg hb],⟨mJ _,by rw[IH.bT];exact if_pos rfl⟩,λhl=>by rw[IH.yD,IH.ou];omega⟩
 obtain⟨h',hr,hM⟩:=hrun;exact E9 hn hg hr (hsm h' hM) (next h' hM)
end
section
variable {P:Program}
variable {ρ:Operand->Value}
variable {B:List Nat} {w0:Wd} {kl kl':List OA} {F:List ay} {a:au} {K:KO}
variable {y:aM} {i j m0:Nat} {I:Nat->au->IH->Prop} {ch:List PanicEntry}
variable {B:List Nat} {w0:Wd} {kl kl':List OA} {F:List ay} {K:KO} {ds:List Tmp} {rest:List aC} {n:Nat} {l:List (Nat×Value)} {D:List Deferred} {pm:Option FrameMode} {ro:Option Nat} {d:Nat} {g:Option (Tmp×Bool)}
end
section
variable {P:Program} {B:List Nat} {w0:Wd} {kl kl' aQ:List OA} {F:List ay} {K:KO} {n:Nat} {l:List (Nat×Value)} {D:List Deferred} {pm:Option FrameMode} {ro:Option Nat}
end
end Go.Ideal
namespace Go.Ideal
variable {P:Program}
section
variable {α κ:Type} [DecidableEq κ] {bM:κ->Value} {E:Enc α}
variable {B:List Nat} {w0:Wd} {kl kl' aQ k1 k2:List OA} {F:List ay} {Q:IH->Prop} {b:Nat} {m:List (κ×List α)}
end
end Go.Ideal
namespace Go.Ideal
variable {P:Program} {B:List Nat} {w0:Wd} {kl kl' aQ:List OA} {F:List ay} {K:KO} {ds:List Tmp} {rest:List aC} {n:Nat} {l:List (Nat×Value)} {D:List Deferred} {pm:Option FrameMode} {ro:Option Nat} {d:Nat} {g:Option (Tmp×Bool)}
end Go.Ideal
namespace Go.Ideal
variable {P:Program} {B:List Nat} {w0:Wd} {kl kl' aQ k1 k2:List OA} {F:List ay} {Q:IH->Prop}
section
variable {β:Type} (A:Value->β->OA)
end
theorem Fa{A A':OA}(e:A=A')(h:R Q B w0 (A'::kl') F)(hk:ax A kl kl':=by exact eU):R Q B w0 kl F:=by
 subst e;exact λw s=>h w (s.dB hk)
theorem St.NE{α:Type}{E:Enc α}{v:Value}{aa:List (α×E.Y)}{w:Wd}(h0:0<aa.length)(hall:(kz E aa).p w)(s:St B w0 (ar E v aa::kl') F w):St B w0 (ap E v (aa.map (·.1))::kl') F w:=by
 obtain⟨S,⟨S1,S2,q1,q2,e⟩,h2,h3⟩:=s.own;refine⟨s.agree,s.le,s.bR,⟨S,⟨S1,S2,?_,q2,e⟩,h2,h3⟩,s.facts⟩;rcases q1 with⟨h4,_⟩|⟨b,f,h4,h5,h6,h7⟩
 ·rw[h4]at h0;simp at h0
 ·refine .inr ⟨b,0,f,_,by rw[bW];exact h4,h5,h6,h7,by rw[lc,bW,dU],λk x hk=>?_⟩;rw[bN]at hk;cases hp:aa[k]? with
  |none=>rw[hp]at hk;cases hk
  |some p=>
   rw[hp]at hk;cases hk;exact⟨p.2,λj u hj=>by rw[dU];exact oU hp hj,λf hf=>hall p (cK hp) f hf⟩
theorem NF{α:Type}{E:Enc α}{v:Value}{aa:List (α×E.Y)}(h0:0<aa.length)(h:R Q B w0 (ap E v (aa.map (·.1))::kl') F)(hfs:∀w,(∀f∈F,f.p w)->(kz E aa).p w)(hk:ax (ar E v aa) kl kl':=by exact eU):R Q B w0 kl F:=λw s=>
 h w (St.NE h0 (hfs w s.facts) (s.dB hk))
end Go.Ideal
namespace Go.Ideal
variable {P:Program}
theorem cB.facts{Y:Type}{fn:Fn}{args cap:List Value}{kl:List OA}{F F2:List ay}{val:Y->Value}{kl':Y->List OA}{fs:Y->List ay}{pr:Y->Prop}(h:cB P fn args cap kl F val kl' fs pr)(hF:∀f∈F,f∈F2):cB P fn args cap kl F2 val kl' fs pr:=
 λB w s=>h B w ⟨s.agree,s.le,s.bR,s.own,λf hf=>s.facts f (hF f hf)⟩
section
variable {B:List Nat} {w0:Wd} {kl kl' aQ:List OA} {F:List ay} {K:KO} {n:Nat} {l:List (Nat×Value)} {D:List Deferred} {pm:Option FrameMode} {ro:Option Nat}
end
section
variable {B:List Nat} {w0:Wd} {kl:List OA} {F:List ay}
end
end Go.Ideal
namespace Go.Ideal
variable {P:Program} {B:List Nat} {w0:Wd} {kl kl' aQ:List OA} {F:List ay} {K:KO} {ds:List Tmp} {rest:List aC} {n:Nat} {l:List (Nat×Value)} {D:List Deferred} {pm:Option FrameMode} {ro:Option Nat} {d:Nat} {g:Option (Tmp×Bool)}
theorem Ap{cs1 cs2 xs:List Value}(h:xs.length<=cs2.length):bX (cs1++cs2) cs1.length xs=some (cs1++(xs++cs2.drop xs.length)):=by
 obtain⟨r,hr⟩:=tQ (cs1++cs2) cs1.length xs (by rw[dO];omega);obtain⟨h1,h2,h3⟩:=rP hr;rw[hr];congr 1;apply gX;intro j;rw[h3 j];by_cases c1:j<cs1.length
 ·rw[if_neg (by omega),fK c1,fK c1]
 ·by_cases c2:j<cs1.length+xs.length
  ·rw[if_pos ⟨by omega,c2⟩,ji (by omega),fK (by omega)]
  ·rw[if_neg (by omega),ji (by omega),ji (by omega),ji (by omega),gK];congr 1;omega
theorem NG{α:Type}{E:Enc α}{v:Value}{aa:List (α×E.Y)}{w:Wd}(h:(nL E v aa).p w):gM v=some aa.length/\mU E.n aa.length v w.h=some (aL E aa):=by
 rcases h with⟨rfl,a,c,rfl,_⟩|⟨i,o,f,c,cells,⟨e1,hc⟩,q2,q3⟩
 ·exact⟨rfl,rfl⟩
 subst e1;refine⟨rfl,?_⟩;by_cases hne:aa=[]
 ·subst hne;rfl
 obtain⟨k,hk'⟩:∃k,aa.length=k+1:=⟨aa.length - 1,by have:=qV.2 hne;omega⟩
 have hfl:=lc aa;have hcells:∀j,j<aa.length*E.n->cells[o+j]? =(aL E aa)[j]?:=λj hj=>by
  have hn0:0<E.n:=by
   rcases o9 E.n with h0|h0
   ·rw[h0]at hj;omega
   ·exact h0
  have hd:j/E.n<aa.length:=by rw[xW hn0];exact hj
  have hmod:=lF j hn0;have hpk:=aU hd;have hu:(E.pat (aa[j/E.n]).1 (aa[j/E.n]).2)[j%E.n]? =some ((E.pat (aa[j/E.n]).1 (aa[j/E.n]).2)[j%E.n]'(by rw[E.len];exact hmod)):=aU _;have h1:=(q3 (j/E.n) _ hpk).1 (j%E.n) _ hu;have h2:=oU hpk hu;have kv:j/E.n*E.n+j%E.n=j:=by rw[nQ];exact xX j E.n
  rw[iD,kv]at h1;rw[kv]at h2;rw[h1,h2]
 have hlen:o+aa.length*E.n<=cells.length\/aa.length*E.n=0:=by
  rcases o9 (aa.length*E.n)with h0|h0
  ·exact .inr h0
  ·left;have h1:=hcells (aa.length*E.n - 1) (by omega);have hx0:(aL E aa)[aa.length*E.n - 1]? =some ((aL E aa)[aa.length*E.n - 1]'(by omega)):=aU _;rw[hx0]at h1;have:=(bH.1 h1).1;omega
 have hread:w.h.bI i o (aa.length*E.n)=some (aL E aa)\/(aa.length*E.n=0):=by
  rcases hlen with hlen|hlen
  ·left;rw[q2.cells.bI,gB,gD,if_pos (by rw[gq];omega)];congr 1;apply gX;intro j;rw[jM];by_cases hj:j<aa.length*E.n
   ·rw[if_pos hj,gK];exact hcells j hj
   ·rw[if_neg hj,dF (by omega)]
  ·exact .inr hlen
 have hread:w.h.bI i o (aa.length*E.n)=some (aL E aa):=by
  rcases hread with h|h
  ·exact h
  ·have hf0:aL E aa=[]:=jm.1 (by omega);rw[h,q2.cells.bI,gD,if_pos (jl _),hf0];rfl
 rw[hk']at hread⊢;exact hread
end Go.Ideal
namespace Go.Ideal
open Go.RowKit Go.WideShapes Go.ChangeShapes
variable {P:Program}
def jJ(n:Nat):Lay:=(List.range n).map λg=>(some ⟨g,0,0,0,0⟩,none)
theorem Fb{n i:Nat}(h:i<n):(jJ n)[i]? =some (some ⟨i,0,0,0,0⟩,none):=by
 unfold jJ;rw[bN,qW h];rfl
theorem NH(n:Nat):(jJ n).length=n:=by unfold jJ;rw[bW,List.length_range]
theorem NI(iZ:P.follows .mixedOrders=true){f:FuncId}(fn:Func)(hfn:P.funcs[f]? =some fn)(hbody:fn.body.isNone=false)(hname:(fn.name== "runtime.NumGoroutine")=false){args args':List Value}{L:Lay}{w:World}{v:Value}(NJ:eO P (dA L))
 (hL:∀(i:Nat) g cs,L[i]? =some (some g,some cs)->qx L w g cs) (hargs:ak (dA L) args args') (hv:aG v=true)
 (hc:CALL P ⟨.func f,args,[],none⟩ (dQ L) (λr pm h'=>pm=none/\r=.ok v/\Agree (dQ L) h')):
 Calls P f ⟨args'⟩ w (λe w'=>e=.returned v/\Below w.heap.size w w'):=by
 have hM:=DJ iZ hc;have hW:WR P (dA L) (dQ L) w:=Lm hL;obtain⟨nx,F0,n1,n2,n3⟩:=hM (dA L) w (.func f) args' [] NJ hW (.func f) hargs .nil;have hnx:nx=.enter f ⟨args'⟩:=by
  have hcall:(callFunc f ⟨args'⟩).run P w=.ok (.enter f ⟨args'⟩) w:=by
   simp only[callFunc,aF,run_program,aI,hfn,hname,hbody,kI,if_false,aS]
  have e:(⟨args'⟩:Array Value)++(⟨[]⟩:Array Value)=⟨args'⟩:=by apply Array.ext';simp
  have n1:(invoke (.fn (.func f) ⟨[]⟩) ⟨args'⟩).run P w=.ok nx w:=n1;simp only[invoke,e]at n1;rw[hcall]at n1;cases n1;rfl
 subst hnx;have oO:F0=Frame.enter P f ⟨args'⟩ .normal:=by
  have:entry P .normal (.enter f ⟨args'⟩)=some (Frame.enter P f ⟨args'⟩ .normal):=rfl;have n2:entry P .normal (.enter f ⟨args'⟩)=some F0:=n2;rw[this]at n2;exact(Option.some.inj n2).symm
 subst oO;intro cs;obtain⟨r,pm',h',β',w',r',cs1,q1,q2,q3,q4,q5,q6⟩:=n3 cs (by intro m hm;cases hm);obtain⟨hp,rfl,hag⟩:=q1;cases q5;cases q4 with
 | @ok v v' fe=>
   have:=fe.gN hv;subst this;rcases q6 with⟨f1,a1,F1,e1,e2,e3,e4,e5⟩|⟨⟨_,l,e1⟩,_⟩
   ·cases e1;refine⟨.returned v',w',F1,⟨rfl,?_⟩,e2,e3,?_⟩
    ·refine⟨q3.os,q3.tape,q3.output,q3.size,λk hk=>?_⟩;by_cases hx:∀i g,dA L i=some g->(dQ L).get i≠none->g.b≠k
     ·exact q3.keep k hk hx
     ·have hx:∃i g,dA L i=some g/\(dQ L).get i≠none/\g.b=k:=by
       apply Classical.byContradiction;intro hc;exact hx λi g hi hg hb=>hc ⟨i,g,hi,hg,hb⟩
      obtain⟨i,g,hi,hg,rfl⟩:=hx;have hin:=hW.dom i g hi;exact q3.iW i g (by rw[hag.low (aB _)];exact hin) hin hi hg hk
    ·obtain⟨t1,t2,fn,t3,t4⟩:=e5;exact⟨t1,t2,e4,fn,t3,t4⟩
   ·cases e1
section
variable {H:Type} {enc:TypeId×Value->H} {W:World}
theorem Fe(iZ:P.follows .mixedOrders=true){f:FuncId}(fn:Func)(hfn:P.funcs[f]? =some fn)(hbody:fn.body.isNone=false)(hname:(fn.name== "runtime.NumGoroutine")=false){K:TypeId->Prop}
 (hK:∀t,K t->PlainT P K t) {ts:List TypeId} {vs:List Value} {ds:List (DataW H)} {ps:List MemPlace} (hT:∀t∈ts,K t) (hok:∀(j:Nat) t v,ts[j]? =some t->vs[j]? =some v->Value.okWide P W .any 0 t v)
 (hA:DataW.TrodAll enc P W 0 (λ_=>true) true ts vs ds ps)
 (NK:∀(w:Wd) (vs':List Value),P.globals.size<=w.h.next->(∀i,i<w.h.next->w.z i)->vs'.length=vs.length->(∀(j:Nat) t v d,ts[j]? =some t->vs'[j]? =some v->ds[j]? =some d->nJ P w t v d)->∃F,(∀f∈F,f.p w)/\fV P f vs' F (.bool true)):
 Calls P f ⟨vs⟩ W (λe w'=>e=.returned (.bool true)/\Below W.heap.size W w'):=by
 obtain⟨M,vs',h1,h2,h3⟩:=En hK hT hok hA (jJ P.globals.size);have Q9:=NH P.globals.size;refine NI iZ fn hfn hbody hname (L:=jJ P.globals.size++M) (args:=vs') (λg hg=>⟨⟨g,0,0,0,0⟩,?_,rfl,rfl⟩) (λi g cs hi=>?_) h1 rfl ?_
 ·unfold dA;rw[fK (by omega),Fb hg];rfl
 ·by_cases hlt:i<P.globals.size
  ·rw[fK (by omega),Fb hlt]at hi;cases hi
  ·exact h3 i g cs (by omega) hi
 have hlen:vs'.length=vs.length:=by
  have:∀{a b:List Value},ak (dA (jJ P.globals.size++M)) a b->a.length=b.length:=by
   intro a;induction a with
   |nil=>intro b h;cases h;rfl
   |cons x a ih=>intro b h;cases h with|cons q r=>simp[ih r]
  exact this h1
 obtain⟨F,hF,hfn'⟩:=NK (wW (jJ P.globals.size++M)) vs' (by show _<=(jJ P.globals.size++M).length;rw[dO];omega) (λi hi=>hi) hlen (λj t v d ht hv hd=>by
  obtain⟨v0,e,fe⟩:=MZ (ts:=ts) h1 j v hv;exact MX rfl (h2 j t v d ht hv hd) fe (hok j t v0 ht e))
 have st:St [] (wW (jJ P.globals.size++M)) [] F (wW (jJ P.globals.size++M)):=⟨⟨aB _,λ_ _ _=>rfl,λ_ _=>rfl⟩,Wd.Le.refl _,λi _ hz=>.inl hz,⟨[],rfl,List.nodup_nil,λi hi=>by cases hi⟩,hF⟩
 refine .oI _ (hfn' [] (wW (jJ P.globals.size++M)) st) ?_;rintro r pm h' ⟨rfl,w',y,rfl,s,rfl,_⟩;exact⟨rfl,rfl,⟨s.agree.next,λi hi=>s.agree.get i hi (by simp),λhl=>s.agree.low hl (by simp)⟩⟩
end
def tT(n:Nat):ay:=⟨λw=>n<=w.h.next,λa h=>iO h a.next⟩
theorem NL{f:FuncId}{v:Value}{n:Nat}(hs:∀h:IH,n<=h.next->CALL P ⟨.func f,[],[],none⟩ h (λr pm h'=>pm=none/\r=.ok v/\h'=h)):fV P f [] [tT n] v:=λB w s=>
 .oI _ (hs w.h (s.facts (tT n) (bV.2 rfl))) (by rintro r pm h' ⟨rfl,rfl,rfl⟩;exact⟨rfl,w,(),rfl,⟨s.agree,s.le,s.bR,s.own,λf h=>by cases h⟩,rfl,trivial⟩)
end Go.Ideal
namespace Go.Ideal
variable {P:Program}
def Aq:Value->Bool
 | .tuple ⟨c::cs⟩=>aG c&&cs.all aG
 | .tuple _=>false
 |v=>aG v
theorem ak.Ff{β:ae}:∀{l:List Value},l.all aG=true->ak β l l
 |[],_=>.nil
 |v::l,h=>by
  rw[qQ,bE]at h;exact .cons (VR.free h.1) (ak.Ff h.2)
theorem ak.Ar{β:ae}:∀{l l':List Value},ak β l l'->l.all aG=true->l'=l
 |_,_,.nil,_=>rfl
 |_,_,.cons h1 h2,h=>by
  rw[qQ,bE]at h;rw[h1.gN h.1,ak.Ar h2 h.2]
theorem VR.NM{β:ae}{v:Value}(h:Aq v=true):VR β v v:=by
 unfold Aq at h;split at h
 ·rename_i c cs;exact .tuple (ak.Ff (by rw[qQ];exact h))
 ·cases h
 ·exact VR.free h
