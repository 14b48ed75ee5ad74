/-
  Part IdealMW.
-/
import Derived.Test.YtfakljdleblkoaaGreatIdealLW
set_option linter.all false
namespace Go.Ideal
open Go.ChangeShapes Go.WideShapes Go.ChangeAt Go.RowKit
variable {P:Program}
def jB{α:Type}(P:Program)(t:TypeId)(E:Enc α)(G:α->Prop):Prop:=∀(w:Wd) (H:Type) (d:DataW H) (cs:List Value),(∀i,i<w.h.next->w.z i)->iq P w.h t cs d->∃a y,cs=E.pat a y/\(∀f∈E.fs a y,f.p w)/\G a
def j5(n:Int):Prop:= -9223372036854775808<=n/\n<9223372036854775808
def qw{α:Type}(G:α->Prop)(xs:List α):Prop:=xs.length<9223372036854775808/\∀x∈xs,G x
variable{t:TypeId}
theorem abU(ht:P.underlying t=some (.int .i64)):jB P t ae j5:=λw H d cs hz r=>by
 obtain⟨n,rfl,_,h⟩:=r.mF ht;refine⟨n,(),rfl,(λf hf=>by cases hf),?_⟩;simp only[Lit.wf,IntKind.min,IntKind.max,IntKind.signed,IntKind.bits,eB,zh]at h;simp at h;exact⟨vj,vj⟩
theorem abV(ht:P.underlying t=some .string):jB P t bD (λ_=>True):=λw H d cs hz r=>by
 obtain⟨n,rfl,_⟩:=r.zG ht;exact⟨n,(),rfl,(λf hf=>by cases hf),trivial⟩
variable{α:Type}
theorem yE{e:TypeId}{E:Enc α}{G:α->Prop}(ht:P.underlying t=some (.slice e))(hn:P.cellsOf e=E.n)(he:jB P e E G):jB P t (ak E) (qw G):=λw H d cs hz r=>by
 rcases r.nI ht with⟨rfl,_⟩|⟨i,n,c,cells,els,rest,rfl,_,hnc,hl,hcl,hel⟩
 ·exact⟨[],_,rfl,(λf hf=>by rw[bK.1 hf];exact .inl ⟨rfl,none,0,rfl,trivial⟩),vm,λx hx=>by cases hx⟩
 ·have hmax:maxLen=9223372036854775807:=by decide
  obtain⟨xs,hx1,hx2⟩:=Ma (p:=λk a=>(∃y,(cells.drop (k*E.n)).take E.n=E.pat a y/\∀f∈E.fs a y,f.p w)/\G a) n (λk hk=>by
   have hk':k<els.length:=vj
   have:=hel k els[k] (bW hk');rw[hn]at this;obtain⟨a,y,q1,q2,q3⟩:=he w H _ _ hz this;exact⟨a,⟨y,q1,q2⟩,q3⟩)
  refine⟨xs,_,rfl,λf hf=>?_,vj,λx hx=>?_⟩
  ·rw[bK.1 hf];rcases hcl with h0|hcl
   ·left;have:xs=[]:=jw.1 vj;exact⟨this,some ⟨i,0,some 0⟩,c,by rw[h0],Or.inl rfl⟩
   ·right;refine⟨i,0,0,c,cells,⟨by rw[hx1],by rw[hx1];exact hnc.1,.inl rfl⟩,⟨hz i hcl.1,hcl.2⟩,λk x hk=>?_⟩;obtain⟨⟨y,q1,q2⟩,_⟩:=hx2 k x hk;refine⟨y,λj u hj=>?_,q2⟩;rw[<- q1,tO]at hj;split at hj
    ·rw[qK]at hj;rw[fC];exact hj
    ·cases hj
  ·obtain⟨k,hk⟩:=jT hx;exact(hx2 k x hk).2
inductive zY(P:Program):{α:Type}->List Field->Enc α->(α->Prop)->Prop
 |nil:zY P [] Rq (λ_=>True)
 |cons {α β:Type} {f:Field} {fs:List Field} {E1:Enc α} {E2:Enc β} {G1:α->Prop} {G2:β->Prop} (h:jB P f.type E1 G1) (hn:P.cellsOf f.type=E1.n) (t:zY P fs E2 G2):zY P (f::fs) (Rp E1 E2) (λx=>G1 x.1/\G2 x.2)
theorem zY.HY{w:Wd}{H:Type}(hz:∀i,i<w.h.next->w.z i):∀{α:Type} {fs:List Field} {E:Enc α} {G:α->Prop},zY P fs E G->∀(o0:Nat) (cs:List Value) (ds:List (DataW H)),cs.length=(fs.map λf=>P.cellsOf f.type).sum->ds.length=fs.length->
 fs.map (·.offset)=sums o0 (fs.map λf=>P.cellsOf f.type)->(∀(j:Nat) f d,fs[j]? =some f->ds[j]? =some d->iq P w.h f.type ((cs.drop (f.offset - o0)).take (P.cellsOf f.type)) d)->∃a y,cs=E.pat a y/\(∀f∈E.fs a y,f.p w)/\G a
 |_,_,_,_,.nil,o0,cs,ds,h1,h2,h3,h4=>⟨(),(),jw.1 ya,(λf hf=>by cases hf),trivial⟩
 |_,_,_,_,.cons (f:=f) (fs:=fs) (E1:=E1) (E2:=E2) h hn t,o0,cs,ds,h1,h2,h3,h4=>by
  match ds,h2 with
  |d::ds,h2=>
   simp only[ic,List.sum_cons,sums,AZ]at h1 h3;obtain⟨ho,h3⟩:=h3;have r0:=h4 0 f d rfl rfl;rw[ho,ww,CS]at r0;obtain⟨a,y,q1,q2,q3⟩:=h w H d _ hz r0;obtain⟨b,z,u1,u2,u3⟩:=zY.HY hz t (o0+P.cellsOf f.type) (cs.drop (P.cellsOf f.type)) ds xp zj h3 (λj g e hg he=>by
    exact dr)
   refine⟨(a,b),(y,z),?_,?_,q3,u3⟩
   ·show cs=E1.pat a y++E2.pat b z;rw[<- q1,<- u1,uU]
   ·exact tB
theorem yF{fs:Array Field}{E:Enc α}{G:α->Prop}(ht:P.underlying t=some (.struct fs))(ho:fs.toList.map (·.offset)=sums 0 (fs.toList.map λf=>P.cellsOf f.type))
 (hs:P.cellsOf t=(fs.toList.map λf=>P.cellsOf f.type).sum) (h:zY P fs.toList E G):jB P t E G:=λw H d cs hz r=>by
 obtain⟨ds,_,h1,h2,h3⟩:=r.Q9 ht;refine h.HY hz 0 cs ds (by rw[h1,hs]) zj ho λj f d hf hd=>?_;rw[CR];exact h3 j f d (by rw[<- zg];exact hf) hd
theorem jB.conv{β:Type}{E:Enc α}{E':Enc β}{G:α->Prop}{G':β->Prop}(h:jB P t E G)(hc:∀a y,G a->∃b z,E.pat a y=E'.pat b z/\E.fs a y=E'.fs b z/\G' b):jB P t E' G':=λw H d cs hz r=>by
 obtain⟨a,y,q1,q2,q3⟩:=h w H d cs hz r;obtain⟨b,z,e1,e2,e3⟩:=hc a y q3;exact⟨b,z,by rw[q1,e1],(λf hf=>q2 f (by rw[e2];exact hf)),e3⟩
section
variable {H:Type}
variable{α:Type}{w:Wd}{t:TypeId}{v:Value}{d:DataW H}
theorem yC.Rz{E:Enc α}{G:α->Prop}(h:yC P w t v d)(hz:∀i,i<w.h.next->w.z i)(ha:jL P t=true)(hr:jB P t E G):∃a y,v=.agg ⟨E.pat a y⟩/\(∀f∈E.fs a y,f.p w)/\G a:=by
 exact oa
theorem yC.oneG{E:Enc α}{G:α->Prop}(h:yC P w t v d)(hz:∀i,i<w.h.next->w.z i)(ha:jL P t=false)(hr:jB P t E G):∃a y,E.pat a y=[v]/\(∀f∈E.fs a y,f.p w)/\G a:=by
 exact nv
end
end Go.Ideal
namespace Go.Ideal
variable {P:Program}
theorem fB.Mi{w:Wd}{A:OA}:∀{kl kl':List OA} {S:List Nat},ay A kl kl'->fB w (A::kl') S->∃S',fB w kl S'/\S.Perm S'
 |_,_,S,.here,h=>⟨S,h,.refl _⟩
 |_,_,_,.there (C:=C) (l:=l) (l':=l') s,⟨S1,S2,h1,⟨T1,T2,h2,h3,e2⟩,e⟩=>by
  subst e e2;obtain⟨S',q1,q2⟩:=fB.Mi (w:=w) (A:=A) s ⟨S1,T2,h1,h3,rfl⟩;refine⟨T1++S',⟨T1,S',h2,q1,rfl⟩,?_⟩;have:(S1++(T1++T2)).Perm (T1++(S1++T2)):=by
   exact th
  exact this.trans (q2.append_left T1)
theorem ay.at{α:Type}{a:α}:∀{l:List α} {k:Nat},l[k]? =some a->ay a l (l.eraseIdx k)
 |[],k,h=>by simp at h
 |b::l,0,h=>by
  simp at h;subst h;exact .here
 |b::l,k+1,h=>.there (ay.at (l:=l) (k:=k) wq)
theorem RA{α:Type}(a:α):∀(l:List α) (k:Nat),(l.set k a).eraseIdx k=l.eraseIdx k
 |[],k=>rfl
 |b::l,0=>rfl
 |b::l,k+1=>by simp[RA a l k]
theorem R.perm{B:List Nat}{w0:Wd}{kl eU:List OA}{F:List aK}{Q:IH->Prop}(hp:∀w S,fB w kl S->∃S',fB w eU S'/\S.Perm S')(h:R Q B w0 eU F):R Q B w0 kl F:=λw s=>by
 obtain⟨S,h1,h2,h3⟩:=s.own;obtain⟨S',q1,q2⟩:=hp w S h1;exact h w ⟨s.agree,s.le,s.gF,⟨S',q1,q2.nodup h2,λi hi=>h3 i (q2.mem_iff.2 hi)⟩,s.facts⟩
section
variable {B:List Nat} {w0:Wd} {kl kl' bG k1 k2:List OA} {F:List aK} {K:KO} {n:Nat} {l:List (Nat×Value)} {D:List Deferred} {pm:Option FrameMode} {ro:Option Nat} {Q:IH->Prop}
end
end Go.Ideal
namespace Go.Ideal
end Go.Ideal
namespace Go.Ideal
variable {P:Program}
def Mj{X:Type}(n:Nat)(D:List Deferred)(pm:Option FrameMode)(ro:Option Nat)(B:List Nat)(w0:Wd)(L:X->List (Nat×Value))(KL:X->List OA)(FF:X->List aK)(inv:X->Prop)(l0:List (Nat×Value))(bG:List OA)(F0:List aK)(K:KO):KO:=λo a h=>
 match o with
 | .normal=>∃(x:X) (l:List (Nat×Value)) (w:Wd),a=act n l D pm ro/\sub (L x++l0) l/\w.h=h/\St B w0 (KL x++bG) (FF x++F0) w/\inv x
 |o=>K o a h
section
variable {B:List Nat} {w0:Wd} {kl kl' bG k1 k2:List OA} {F:List aK} {K:KO} {n:Nat} {l:List (Nat×Value)} {D:List Deferred} {pm:Option FrameMode} {ro:Option Nat} {Q:IH->Prop}
section
variable {X:Type} {n2:Nat} {D2:List Deferred} {pm2:Option FrameMode} {ro2:Option Nat} {B2:List Nat} {w2:Wd} {L:X->List (Nat×Value)} {KL:X->List OA} {FF:X->List aK} {inv:X->Prop} {l0:List (Nat×Value)} {F0:List aK}
theorem abY{a:aV}{ch:List PanicEntry}(h:R (λh=>K (.panic ch) a h) B w0 kl F):R (λh=>Mj n2 D2 pm2 ro2 B2 w2 L KL FF inv l0 bG F0 K (.panic ch) a h) B w0 kl F:=h
theorem H7{Eh eU:List OA}(x:X)(hi:inv x)(hl:sub (L x++l0) l:=by repeat (first|exact trivial|refine⟨rfl,?_⟩))
 (ha:bR (KL x) bG Eh:=by repeat (first|exact bR.nil|apply bR.cons|exact bR.self|exact bR.app))
 (hk:aI Eh kl eU:=by exact oK) (hF:Sub (FF x) F:=by exact oJ)
 (zU:lG F0 F:=by repeat (first|exact lG.here|apply lG.cons|apply lG.app)):
 R (λh=>Mj n D pm ro B w0 L KL FF inv l0 bG F0 K .normal (act n l D pm ro) h) B w0 kl F:=λw s=>by
 refine⟨x,l,w,rfl,hl,rfl,?_,hi⟩;have s':=(s.j4 hk).drop;rw[<- ha.eq]at s';exact⟨s'.agree,s'.le,s'.gF,s'.own,λf hf=>(dW.1 hf).elim (λhf=>s.facts f (hF.mem f hf)) (λhf=>s.facts f (zU.mem f hf))⟩
end
theorem RB{X:Type}{x y:dB}{l0:List (Nat×Value)}{L2:X->List (Nat×Value)}{Ef:X->List OA}{Eg:X->List aK}(ks:List Nat)(L:X->List (Nat×Value))(KL:X->List OA)(FF:X->List aK)(inv:X->Prop)
 (hx:R (λh=>EV P x (act n l D pm ro) h (Mj n D pm ro B w0 L KL FF inv l0 bG F K)) B w0 kl F)
 (hy:∀z,inv z->R (λh=>EV P y (act n (L2 z) D pm ro) h K) B w0 (Ef z) (Eg z))
 (h0:ru l (ks.map λk=>(k,si)) l0:=by repeat (first|exact ru.nil|(apply ru.drop;(focus exact rfl))|(apply ru.keep;(focus exact rfl))))
 (hal:∀x,bR (L x) l0 (L2 x):=by intro y;repeat (first|exact bR.nil|apply bR.cons|exact bR.self|exact bR.app))
 (hak:∀x,bR (KL x) bG (Ef x):=by intro y;repeat (first|exact bR.nil|apply bR.cons|exact bR.self|exact bR.app)) (BP:∀x,bR (FF x) F (Eg x):=by intro y;repeat (first|exact bR.nil|apply bR.cons|exact bR.self|exact bR.app)):
 R (λh=>EV P x (act n l D pm ro) h (yx P y K)) B w0 kl F:=λw s=>by
 refine Lm (hx w s) _ ?_;intro o a h hm;cases o with
 |normal=>
  obtain⟨z,l',w',rfl,hl,rfl,s',hz⟩:=hm;have:=hy z hz;rw[<- (hak z).eq,<- (BP z).eq,<- (hal z).eq]at this;exact QK (Lt hl) (this w' s')
 |exit j=>exact hm
 |ret=>exact hm
 |panic ch=>exact hm
end
end Go.Ideal
namespace Go.Ideal
variable {P:Program}
theorem akj{n k:Nat}(h:k<=n):upTo n (.int .i64 (k:Int))=some k:=by
 show cond (Nat.ble k n) (some k) none=_;rw[show Nat.ble k n=true from by rw[uR];exact h];rfl
section
variable {B:List Nat} {w0:Wd} {kl kl' bG k1 k2:List OA} {F:List aK} {K:KO} {n:Nat} {l:List (Nat×Value)} {D:List Deferred} {pm:Option FrameMode} {ro:Option Nat} {Q:IH->Prop} {ds:List Tmp} {rest:List bT} {d:Nat} {g:Option (Tmp×Bool)}
end
