/-
  Part IdealMX.
-/
import Derived.Test.YtoilpafpgndilaaGreatIdealLX
set_option linter.all false
namespace Go.Ideal
open Go.ChangeShapes Go.WideShapes Go.ChangeAt Go.RowKit
variable {P:Program}
def iZ{α:Type}(P:Program)(t:TypeId)(E:Enc α)(G:α->Prop):Prop:=∀(w:Wd) (H:Type) (d:DataW H) (cs:List Value),(∀i,i<w.h.next->w.z i)->iw P w.h t cs d->∃a y,cs=E.pat a y/\(∀f∈E.fs a y,f.p w)/\G a
def kD(n:Int):Prop:= -9223372036854775808<=n/\n<9223372036854775808
def pu{α:Type}(G:α->Prop)(xs:List α):Prop:=xs.length<9223372036854775808/\∀x∈xs,G x
theorem acJ{t:TypeId}(ht:P.underlying t=some (.int .i64)):iZ P t ae kD:=λw H d cs hz r=>by
 obtain⟨n,rfl,_,h⟩:=r.mo ht;refine⟨n,(),rfl,(λf hf=>by cases hf),?_⟩;simp only[Lit.wf,IntKind.min,IntKind.max,IntKind.signed,IntKind.bits,fe,wP]at h;simp at h;exact⟨by omega,by omega⟩
theorem acK{t:TypeId}(ht:P.underlying t=some .string):iZ P t bC (λ_=>True):=λw H d cs hz r=>by
 obtain⟨n,rfl,_⟩:=r.Ai ht;exact⟨n,(),rfl,(λf hf=>by cases hf),trivial⟩
theorem vY{α:Type}{t e:TypeId}{E:Enc α}{G:α->Prop}(ht:P.underlying t=some (.slice e))(hn:P.cellsOf e=E.n)(he:iZ P e E G):iZ P t (ak E) (pu G):=λw H d cs hz r=>by
 rcases r.nT ht with⟨rfl,_⟩|⟨i,n,c,cells,els,rest,rfl,_,hnc,hl,hcl,hel⟩
 ·exact⟨[],_,rfl,(λf hf=>by rw[bM.1 hf];exact .inl ⟨rfl,none,0,rfl,trivial⟩),by simp,λx hx=>by cases hx⟩
 ·have hmax:maxLen=9223372036854775807:=by decide
  obtain⟨xs,hx1,hx2⟩:=IE (p:=λk a=>(∃y,(cells.drop (k*E.n)).take E.n=E.pat a y/\∀f∈E.fs a y,f.p w)/\G a) n (λk hk=>by
   have hk':k<els.length:=by omega
   have:=hel k els[k] (bP hk');rw[hn]at this;obtain⟨a,y,q1,q2,q3⟩:=he w H _ _ hz this;exact⟨a,⟨y,q1,q2⟩,q3⟩)
  refine⟨xs,_,rfl,λf hf=>?_,by omega,λx hx=>?_⟩
  ·rw[bM.1 hf];rcases hcl with h0|hcl
   ·left;have:xs=[]:=jy.1 (by omega);exact⟨this,some ⟨i,0,some 0⟩,c,by rw[h0],Or.inl rfl⟩
   ·right;refine⟨i,0,0,c,cells,⟨by rw[hx1],by rw[hx1];exact hnc.1,.inl rfl⟩,⟨hz i hcl.1,hcl.2⟩,λk x hk=>?_⟩;obtain⟨⟨y,q1,q2⟩,_⟩:=hx2 k x hk;refine⟨y,λj u hj=>?_,q2⟩;rw[<- q1,sK]at hj;split at hj
    ·rw[oO]at hj;rw[fo];exact hj
    ·cases hj
  ·obtain⟨k,hk⟩:=jS hx;exact(hx2 k x hk).2
inductive AL(P:Program):{α:Type}->List Field->Enc α->(α->Prop)->Prop
 |nil:AL P [] Sn (λ_=>True)
 |cons {α β:Type} {f:Field} {fs:List Field} {E1:Enc α} {E2:Enc β} {G1:α->Prop} {G2:β->Prop} (h:iZ P f.type E1 G1) (hn:P.cellsOf f.type=E1.n) (t:AL P fs E2 G2):AL P (f::fs) (Sm E1 E2) (λx=>G1 x.1/\G2 x.2)
theorem AL.IG{w:Wd}{H:Type}(hz:∀i,i<w.h.next->w.z i):∀{α:Type} {fs:List Field} {E:Enc α} {G:α->Prop},AL P fs E G->∀(o0:Nat) (cs:List Value) (ds:List (DataW H)),cs.length=(fs.map λf=>P.cellsOf f.type).sum->ds.length=fs.length->
 fs.map (·.offset)=sums o0 (fs.map λf=>P.cellsOf f.type)->(∀(j:Nat) f d,fs[j]? =some f->ds[j]? =some d->iw P w.h f.type ((cs.drop (f.offset - o0)).take (P.cellsOf f.type)) d)->∃a y,cs=E.pat a y/\(∀f∈E.fs a y,f.p w)/\G a
 |_,_,_,_,.nil,o0,cs,ds,h1,h2,h3,h4=>⟨(),(),jy.1 (by simpa using h1),(λf hf=>by cases hf),trivial⟩
 |_,_,_,_,.cons (f:=f) (fs:=fs) (E1:=E1) (E2:=E2) h hn t,o0,cs,ds,h1,h2,h3,h4=>by
  match ds,h2 with
  |d::ds,h2=>
   simp only[gL,List.sum_cons,sums,zR]at h1 h3;obtain⟨ho,h3⟩:=h3;have r0:=h4 0 f d rfl rfl;rw[ho,vK,DC]at r0;obtain⟨a,y,q1,q2,q3⟩:=h w H d _ hz r0;obtain⟨b,z,u1,u2,u3⟩:=AL.IG hz t (o0+P.cellsOf f.type) (cs.drop (P.cellsOf f.type)) ds (by rw[sO];omega) (by simpa using h2) h3 (λj g e hg he=>by
    have:=h4 (j+1) g e hg he;rw[List.drop_drop];have hle:o0+P.cellsOf f.type<=g.offset:=by
     have hj:(fs.map (·.offset))[j]? =some g.offset:=by rw[dm,hg];rfl
     rw[h3]at hj;have hs:(fs.map λf=>P.cellsOf f.type)[j]? =some (P.cellsOf g.type):=by rw[dm,hg];rfl
     exact(yV _ ([]:List Value) (o0+P.cellsOf f.type) j _ _ hj hs).2
    rw[show P.cellsOf f.type+(g.offset - (o0+P.cellsOf f.type))=g.offset - o0 by omega];exact this)
   refine⟨(a,b),(y,z),?_,?_,q3,u3⟩
   ·show cs=E1.pat a y++E2.pat b z;rw[<- q1,<- u1,uq]
   ·intro g hg;rcases dX.1 hg with hg|hg
    ·exact q2 g hg
    ·exact u2 g hg
theorem xL{α:Type}{t:TypeId}{fs:Array Field}{E:Enc α}{G:α->Prop}(ht:P.underlying t=some (.struct fs))(ho:fs.toList.map (·.offset)=sums 0 (fs.toList.map λf=>P.cellsOf f.type))
 (hs:P.cellsOf t=(fs.toList.map λf=>P.cellsOf f.type).sum) (h:AL P fs.toList E G):iZ P t E G:=λw H d cs hz r=>by
 obtain⟨ds,_,h1,h2,h3⟩:=r.R6 ht;refine h.IG hz 0 cs ds (by rw[h1,hs]) (by simpa using h2) ho λj f d hf hd=>?_;rw[Dz];exact h3 j f d (by rw[<- zN];exact hf) hd
theorem iZ.conv{α β:Type}{t:TypeId}{E:Enc α}{E':Enc β}{G:α->Prop}{G':β->Prop}(h:iZ P t E G)(hc:∀a y,G a->∃b z,E.pat a y=E'.pat b z/\E.fs a y=E'.fs b z/\G' b):iZ P t E' G':=λw H d cs hz r=>by
 obtain⟨a,y,q1,q2,q3⟩:=h w H d cs hz r;obtain⟨b,z,e1,e2,e3⟩:=hc a y q3;exact⟨b,z,by rw[q1,e1],(λf hf=>q2 f (by rw[e2];exact hf)),e3⟩
section
variable {H:Type}
theorem vX.IL{α:Type}{w:Wd}{t:TypeId}{v:Value}{d:DataW H}{E:Enc α}{G:α->Prop}(h:vX P w t v d)(hz:∀i,i<w.h.next->w.z i)(ha:jC P t=true)(hr:iZ P t E G):∃a y,v=.agg ⟨E.pat a y⟩/\(∀f∈E.fs a y,f.p w)/\G a:=by
 obtain⟨cs,r,⟨_,e⟩|⟨e,_⟩⟩:=h
 ·obtain⟨a,y,rfl,q⟩:=hr w H d cs hz r;exact⟨a,y,e,q⟩
 ·rw[ha]at e;cases e
theorem vX.oneG{α:Type}{w:Wd}{t:TypeId}{v:Value}{d:DataW H}{E:Enc α}{G:α->Prop}(h:vX P w t v d)(hz:∀i,i<w.h.next->w.z i)(ha:jC P t=false)(hr:iZ P t E G):∃a y,E.pat a y=[v]/\(∀f∈E.fs a y,f.p w)/\G a:=by
 obtain⟨cs,r,⟨e,_⟩|⟨_,e⟩⟩:=h
 ·rw[ha]at e;cases e
 ·obtain⟨a,y,q0,q⟩:=hr w H d cs hz r;exact⟨a,y,by rw[<- q0,e],q⟩
end
end Go.Ideal
namespace Go.Ideal
variable {P:Program}
theorem fI.MN{w:Wd}{A:OA}:∀{kl kl':List OA} {S:List Nat},az A kl kl'->fI w (A::kl') S->∃S',fI w kl S'/\S.Perm S'
 |_,_,S,.here,h=>⟨S,h,.refl _⟩
 |_,_,_,.there (C:=C) (l:=l) (l':=l') s,⟨S1,S2,h1,⟨T1,T2,h2,h3,e2⟩,e⟩=>by
  subst e e2;obtain⟨S',q1,q2⟩:=fI.MN (w:=w) (A:=A) s ⟨S1,T2,h1,h3,rfl⟩;refine⟨T1++S',⟨T1,S',h2,q1,rfl⟩,?_⟩;have:(S1++(T1++T2)).Perm (T1++(S1++T2)):=by
   rw[<- List.append_assoc,<- List.append_assoc];exact List.Perm.append_right T2 List.perm_append_comm
  exact this.trans (q2.append_left T1)
theorem az.at{α:Type}{a:α}:∀{l:List α} {k:Nat},l[k]? =some a->az a l (l.eraseIdx k)
 |[],k,h=>by simp at h
 |b::l,0,h=>by
  simp at h;subst h;exact .here
 |b::l,k+1,h=>.there (az.at (l:=l) (k:=k) (by simpa using h))
theorem SE{α:Type}(a:α):∀(l:List α) (k:Nat),(l.set k a).eraseIdx k=l.eraseIdx k
 |[],k=>rfl
 |b::l,0=>rfl
 |b::l,k+1=>by simp[SE a l k]
theorem R.perm{B:List Nat}{w0:Wd}{kl fu:List OA}{F:List aO}{Q:IH->Prop}(hp:∀w S,fI w kl S->∃S',fI w fu S'/\S.Perm S')(h:R Q B w0 fu F):R Q B w0 kl F:=λw s=>by
 obtain⟨S,h1,h2,h3⟩:=s.own;obtain⟨S',q1,q2⟩:=hp w S h1;exact h w ⟨s.agree,s.le,s.gF,⟨S',q1,q2.nodup h2,λi hi=>h3 i (q2.mem_iff.2 hi)⟩,s.facts⟩
section
variable {B:List Nat} {w0:Wd} {kl kl' bH k1 k2:List OA} {F:List aO} {K:KO} {n:Nat} {l:List (Nat×Value)} {D:List Deferred} {pm:Option FrameMode} {ro:Option Nat} {Q:IH->Prop}
end
end Go.Ideal
namespace Go.Ideal
end Go.Ideal
namespace Go.Ideal
variable {P:Program}
def MO{X:Type}(n:Nat)(D:List Deferred)(pm:Option FrameMode)(ro:Option Nat)(B:List Nat)(w0:Wd)(L:X->List (Nat×Value))(KL:X->List OA)(FF:X->List aO)(inv:X->Prop)(l0:List (Nat×Value))(bH:List OA)(F0:List aO)(K:KO):KO:=λo a h=>
 match o with
 | .normal=>∃(x:X) (l:List (Nat×Value)) (w:Wd),a=act n l D pm ro/\sub (L x++l0) l/\w.h=h/\St B w0 (KL x++bH) (FF x++F0) w/\inv x
 |o=>K o a h
section
variable {B:List Nat} {w0:Wd} {kl kl' bH k1 k2:List OA} {F:List aO} {K:KO} {n:Nat} {l:List (Nat×Value)} {D:List Deferred} {pm:Option FrameMode} {ro:Option Nat} {Q:IH->Prop}
section
variable {X:Type} {n2:Nat} {D2:List Deferred} {pm2:Option FrameMode} {ro2:Option Nat} {B2:List Nat} {w2:Wd} {L:X->List (Nat×Value)} {KL:X->List OA} {FF:X->List aO} {inv:X->Prop} {l0:List (Nat×Value)} {F0:List aO}
theorem acN{a:aV}{ch:List PanicEntry}(h:R (λh=>K (.panic ch) a h) B w0 kl F):R (λh=>MO n2 D2 pm2 ro2 B2 w2 L KL FF inv l0 bH F0 K (.panic ch) a h) B w0 kl F:=h
theorem IM{EU fu:List OA}(x:X)(hi:inv x)(hl:sub (L x++l0) l:=by repeat (first|exact trivial|refine⟨rfl,?_⟩))
 (ha:bS (KL x) bH EU:=by repeat (first|exact bS.nil|apply bS.cons|exact bS.self|exact bS.app))
 (hk:aI EU kl fu:=by exact pg) (hF:Sub (FF x) F:=by exact o9)
 (Az:lT F0 F:=by repeat (first|exact lT.here|apply lT.cons|apply lT.app)):
 R (λh=>MO n D pm ro B w0 L KL FF inv l0 bH F0 K .normal (act n l D pm ro) h) B w0 kl F:=λw s=>by
 refine⟨x,l,w,rfl,hl,rfl,?_,hi⟩;have s':=(s.kv hk).drop;rw[<- ha.eq]at s';exact⟨s'.agree,s'.le,s'.gF,s'.own,λf hf=>(dX.1 hf).elim (λhf=>s.facts f (hF.mem f hf)) (λhf=>s.facts f (Az.mem f hf))⟩
end
theorem SF{X:Type}{x y:dI}{l0:List (Nat×Value)}{L2:X->List (Nat×Value)}{ES:X->List OA}{ET:X->List aO}(ks:List Nat)(L:X->List (Nat×Value))(KL:X->List OA)(FF:X->List aO)(inv:X->Prop)
 (hx:R (λh=>EV P x (act n l D pm ro) h (MO n D pm ro B w0 L KL FF inv l0 bH F K)) B w0 kl F)
 (hy:∀z,inv z->R (λh=>EV P y (act n (L2 z) D pm ro) h K) B w0 (ES z) (ET z))
 (h0:rP l (ks.map λk=>(k,sS)) l0:=by repeat (first|exact rP.nil|(apply rP.drop;(focus exact rfl))|(apply rP.keep;(focus exact rfl))))
 (hal:∀x,bS (L x) l0 (L2 x):=by intro y;repeat (first|exact bS.nil|apply bS.cons|exact bS.self|exact bS.app))
 (hak:∀x,bS (KL x) bH (ES x):=by intro y;repeat (first|exact bS.nil|apply bS.cons|exact bS.self|exact bS.app)) (CB:∀x,bS (FF x) F (ET x):=by intro y;repeat (first|exact bS.nil|apply bS.cons|exact bS.self|exact bS.app)):
 R (λh=>EV P x (act n l D pm ro) h (yU P y K)) B w0 kl F:=λw s=>by
 refine LY (hx w s) _ ?_;intro o a h hm;cases o with
 |normal=>
  obtain⟨z,l',w',rfl,hl,rfl,s',hz⟩:=hm;have:=hy z hz;rw[<- (hak z).eq,<- (CB z).eq,<- (hal z).eq]at this;exact RB (L9 hl) (this w' s')
 |exit j=>exact hm
 |ret=>exact hm
 |panic ch=>exact hm
end
end Go.Ideal
namespace Go.Ideal
variable {P:Program}
section
variable {B:List Nat} {w0:Wd} {kl kl' bH k1 k2:List OA} {F:List aO} {K:KO} {n:Nat} {l:List (Nat×Value)} {D:List Deferred} {pm:Option FrameMode} {ro:Option Nat} {Q:IH->Prop} {ds:List Tmp} {rest:List bV} {d:Nat} {g:Option (Tmp×Bool)}
theorem acO{e:TypeId}{bytes b:Nat}{s x:Operand}{v:Value}{xs:List Int}(hne:0<xs.length)(hm:xs.length*bytes<=1073741824/\xs.length<=1073741824)
 (next:∀b',R (λh=>aH P ds rest (act n ((d,.slice (some ⟨b',0,some 1⟩) xs.length xs.length)::l) D pm ro) h K) B w0 (pt b' (.cells (xs.map (.int .i64)))::kl') F)
 (hs:ev l s=.slice (some ⟨b,0,some 0⟩) 0 0:=by rfl) (hx:ev l x=v:=by conv=>lhs;whnf) (hf:ai ae v xs∈F:=by exact vW) (hk:az (pt b (.cells [])) kl kl':=by exact gN) (hn:Nat.blt d n=true:=by rfl) (hg:cZ l g=true:=by rfl):
 R (λh=>aH P ds (⟨⟨some d,g,.append e 1 bytes s x⟩,[]⟩::rest) (act n l D pm ro) h K) B w0 kl F:=λw st=>by
 have st1:=st.gq hk;have hat:At w.h b (.cells []):=st.at_ hk;obtain⟨k,hk'⟩:∃k,xs.length=k+1:=⟨xs.length - 1,by omega⟩
 rcases st.facts _ hf with⟨rfl,_⟩|⟨i,o,f,c,cells,⟨e1,hc⟩,q2,q3⟩
 ·simp at hne
 have hcells:∀j,j<xs.length->cells[o+j]? =(xs.map (Value.int .i64))[j]?:=λj hj=>by
  obtain⟨y,u1,_⟩:=q3 j xs[j] (bP hj);have:=u1 0 (.int .i64 xs[j]) rfl;rw[dm,bP hj];simpa[ae]using this
 have hlen:o+xs.length<=cells.length:=by
  have:=hcells (xs.length - 1) (by omega);have hx0:xs[xs.length - 1]? =some (xs[xs.length - 1]'(by omega)):=bP _;rw[dm,hx0]at this;have:=(bq.1 this).1;omega
 have hread:w.h.iM i o (xs.length*1)=some (xs.map (.int .i64)):=by
  rw[q2.cells.iM,p9,qD,uw,if_pos (by rw[sO];omega)];congr 1;apply iY;intro j;rw[sK];by_cases hj:j<xs.length
  ·rw[if_pos hj,oO];exact hcells j hj
  ·rw[if_neg hj,fO (by rw[bY];omega)]
 refine Mk (b:=b) (o:=0) (m:=0) (k:=k) (f:=some 0) (old:=[]) (xs:=xs.map (.int .i64)) hn hg hs (by rw[hx,e1,hk'];rfl) ?_ ?_ (.inl rfl) ?_ λh' mv=>?_
 ·rw[hx,e1,<- hk'];exact hread
 ·rw[hat.c.iM];rfl
 ·rw[fo,<- hk'];omega
 obtain⟨w',rfl,kz,EL⟩:=st1.move mv;rw[dY]at kz;have:=next w.h.next w' kz
 rw[hk']at this;rw[fo];exact this
end
