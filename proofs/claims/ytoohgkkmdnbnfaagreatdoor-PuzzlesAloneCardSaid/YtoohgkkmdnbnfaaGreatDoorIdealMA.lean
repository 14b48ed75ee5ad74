/-
  The ideal machine, 61: plain data as things, with bounds.
-/
import Derived.Test.YtoohgkkmdnbnfaaGreatDoorIdealLA
set_option linter.all false
namespace Go.Ideal
open Go.ChangeShapes Go.WideShapes Go.ChangeAt Go.RowKit
variable {P:Program}
def je{α:Type}(P:Program)(t:TypeId)(E:Enc α)(G:α->Prop):Prop:=∀(w:Wd) (H:Type) (d:DataW H) (cs:List Value),(∀i,i<w.h.next->w.z i)->ik P w.h t cs d->∃a y,cs=E.pat a y/\(∀f∈E.fs a y,f.p w)/\G a
def jU(n:Int):Prop:= -9223372036854775808<=n/\n<9223372036854775808
def oQ{α:Type}(G:α->Prop)(xs:List α):Prop:=xs.length<9223372036854775808/\∀x∈xs,G x
theorem abh{t:TypeId}(ht:P.underlying t=some (.int .i64)):je P t aa jU:=λw H d cs hz r=>by
 obtain⟨n,rfl,_,h⟩:=r.l6 ht;refine⟨n,(),rfl,(λf hf=>by cases hf),?_⟩;simp only[Lit.wf,IntKind.min,IntKind.max,IntKind.signed,IntKind.bits,gL,wW]at h;simp at h;exact⟨by omega,by omega⟩
theorem abj{t:TypeId}(ht:P.underlying t=some .string):je P t aR (λ_=>True):=λw H d cs hz r=>by
 obtain⟨n,rfl,_⟩:=r.xD ht;exact⟨n,(),rfl,(λf hf=>by cases hf),trivial⟩
theorem vX{α:Type}{t e:TypeId}{E:Enc α}{G:α->Prop}(ht:P.underlying t=some (.slice e))(hn:P.cellsOf e=E.n)(he:je P e E G):je P t (aj E) (oQ G):=λw H d cs hz r=>by
 rcases r.mR ht with⟨rfl,_⟩|⟨i,n,c,cells,els,rest,rfl,_,hnc,hl,hcl,hel⟩
 ·exact⟨[],_,rfl,(λf hf=>by rw[bH.1 hf];exact .inl ⟨rfl,none,0,rfl,trivial⟩),by simp,λx hx=>by cases hx⟩
 ·have hmax:maxLen=9223372036854775807:=by decide
  obtain⟨xs,hx1,hx2⟩:=LG (p:=λk a=>(∃y,(cells.drop (k*E.n)).take E.n=E.pat a y/\∀f∈E.fs a y,f.p w)/\G a) n (λk hk=>by
   have hk':k<els.length:=by omega
   have:=hel k els[k] (cB hk');rw[hn]at this;obtain⟨a,y,q1,q2,q3⟩:=he w H _ _ hz this;exact⟨a,⟨y,q1,q2⟩,q3⟩)
  refine⟨xs,_,rfl,λf hf=>?_,by omega,λx hx=>?_⟩
  ·rw[bH.1 hf];rcases hcl with h0|hcl
   ·left;have:xs=[]:=ji.1 (by omega);exact⟨this,some ⟨i,0,some 0⟩,c,by rw[h0],Or.inl rfl⟩
   ·right;refine⟨i,0,0,c,cells,⟨by rw[hx1],by rw[hx1];exact hnc.1,.inl rfl⟩,⟨hz i hcl.1,hcl.2⟩,λk x hk=>?_⟩;obtain⟨⟨y,q1,q2⟩,_⟩:=hx2 k x hk;refine⟨y,λj u hj=>?_,q2⟩;rw[<- q1,pE]at hj;split at hj
    ·rw[mX]at hj;rw[eT];exact hj
    ·cases hj
  ·obtain⟨k,hk⟩:=lH hx;exact(hx2 k x hk).2
inductive zN(P:Program):{α:Type}->List Field->Enc α->(α->Prop)->Prop
 |nil:zN P [] Q3 (λ_=>True)
 |cons {α β:Type} {f:Field} {fs:List Field} {E1:Enc α} {E2:Enc β} {G1:α->Prop} {G2:β->Prop} (h:je P f.type E1 G1) (hn:P.cellsOf f.type=E1.n) (t:zN P fs E2 G2):zN P (f::fs) (Q0 E1 E2) (λx=>G1 x.1/\G2 x.2)
theorem zN.HZ{w:Wd}{H:Type}(hz:∀i,i<w.h.next->w.z i):∀{α:Type} {fs:List Field} {E:Enc α} {G:α->Prop},zN P fs E G->∀(o0:Nat) (cs:List Value) (ds:List (DataW H)),cs.length=(fs.map λf=>P.cellsOf f.type).sum->ds.length=fs.length->
 fs.map (·.offset)=sums o0 (fs.map λf=>P.cellsOf f.type)->(∀(j:Nat) f d,fs[j]? =some f->ds[j]? =some d->ik P w.h f.type ((cs.drop (f.offset - o0)).take (P.cellsOf f.type)) d)->∃a y,cs=E.pat a y/\(∀f∈E.fs a y,f.p w)/\G a
 |_,_,_,_,.nil,o0,cs,ds,h1,h2,h3,h4=>⟨(),(),ji.1 (by simpa using h1),(λf hf=>by cases hf),trivial⟩
 |_,_,_,_,.cons (f:=f) (fs:=fs) (E1:=E1) (E2:=E2) h hn t,o0,cs,ds,h1,h2,h3,h4=>by
  match ds,h2 with
  |d::ds,h2=>
   simp only[gQ,List.sum_cons,sums,AJ]at h1 h3;obtain⟨ho,h3⟩:=h3;have r0:=h4 0 f d rfl rfl;rw[ho,xe,uX]at r0;obtain⟨a,y,q1,q2,q3⟩:=h w H d _ hz r0;obtain⟨b,z,u1,u2,u3⟩:=zN.HZ hz t (o0+P.cellsOf f.type) (cs.drop (P.cellsOf f.type)) ds (by rw[mK];omega) (by simpa using h2) h3 (λj g e hg he=>by
    have:=h4 (j+1) g e hg he;rw[List.drop_drop];have hle:o0+P.cellsOf f.type<=g.offset:=by
     have hj:(fs.map (·.offset))[j]? =some g.offset:=by rw[eZ,hg];rfl
     rw[h3]at hj;have hs:(fs.map λf=>P.cellsOf f.type)[j]? =some (P.cellsOf g.type):=by rw[eZ,hg];rfl
     exact(xO _ ([]:List Value) (o0+P.cellsOf f.type) j _ _ hj hs).2
    rw[show P.cellsOf f.type+(g.offset - (o0+P.cellsOf f.type))=g.offset - o0 by omega];exact this)
   refine⟨(a,b),(y,z),?_,?_,q3,u3⟩
   ·show cs=E1.pat a y++E2.pat b z;rw[<- q1,<- u1,rq]
   ·intro g hg;rcases dV.1 hg with hg|hg
    ·exact q2 g hg
    ·exact u2 g hg
theorem vY{α:Type}{t:TypeId}{fs:Array Field}{E:Enc α}{G:α->Prop}(ht:P.underlying t=some (.struct fs))(ho:fs.toList.map (·.offset)=sums 0 (fs.toList.map λf=>P.cellsOf f.type))
 (hs:P.cellsOf t=(fs.toList.map λf=>P.cellsOf f.type).sum) (h:zN P fs.toList E G):je P t E G:=λw H d cs hz r=>by
 obtain⟨ds,_,h1,h2,h3⟩:=r.QO ht;refine h.HZ hz 0 cs ds (by rw[h1,hs]) (by simpa using h2) ho λj f d hf hd=>?_;rw[AO];exact h3 j f d (by rw[<- yV];exact hf) hd
theorem je.conv{α β:Type}{t:TypeId}{E:Enc α}{E':Enc β}{G:α->Prop}{G':β->Prop}(h:je P t E G)(hc:∀a y,G a->∃b z,E.pat a y=E'.pat b z/\E.fs a y=E'.fs b z/\G' b):je P t E' G':=λw H d cs hz r=>by
 obtain⟨a,y,q1,q2,q3⟩:=h w H d cs hz r;obtain⟨b,z,e1,e2,e3⟩:=hc a y q3;exact⟨b,z,by rw[q1,e1],(λf hf=>q2 f (by rw[e2];exact hf)),e3⟩
section
variable {H:Type}
theorem uD.Rc{α:Type}{w:Wd}{t:TypeId}{v:Value}{d:DataW H}{E:Enc α}{G:α->Prop}(h:uD P w t v d)(hz:∀i,i<w.h.next->w.z i)(ha:jJ P t=true)(hr:je P t E G):∃a y,v=.agg ⟨E.pat a y⟩/\(∀f∈E.fs a y,f.p w)/\G a:=by
 obtain⟨cs,r,⟨_,e⟩|⟨e,_⟩⟩:=h
 ·obtain⟨a,y,rfl,q⟩:=hr w H d cs hz r;exact⟨a,y,e,q⟩
 ·rw[ha]at e;cases e
theorem uD.oneG{α:Type}{w:Wd}{t:TypeId}{v:Value}{d:DataW H}{E:Enc α}{G:α->Prop}(h:uD P w t v d)(hz:∀i,i<w.h.next->w.z i)(ha:jJ P t=false)(hr:je P t E G):∃a y,E.pat a y=[v]/\(∀f∈E.fs a y,f.p w)/\G a:=by
 obtain⟨cs,r,⟨e,_⟩|⟨_,e⟩⟩:=h
 ·rw[ha]at e;cases e
 ·obtain⟨a,y,q0,q⟩:=hr w H d cs hz r;exact⟨a,y,by rw[<- q0,e],q⟩
end
end Go.Ideal
namespace Go.Ideal
variable {P:Program}
theorem fB.LK{w:Wd}{A:OA}:∀{kl kl':List OA} {S:List Nat},ay A kl kl'->fB w (A::kl') S->∃S',fB w kl S'/\S.Perm S'
 |_,_,S,.here,h=>⟨S,h,.refl _⟩
 |_,_,_,.there (C:=C) (l:=l) (l':=l') s,⟨S1,S2,h1,⟨T1,T2,h2,h3,e2⟩,e⟩=>by
  subst e e2;obtain⟨S',q1,q2⟩:=fB.LK (w:=w) (A:=A) s ⟨S1,T2,h1,h3,rfl⟩;refine⟨T1++S',⟨T1,S',h2,q1,rfl⟩,?_⟩;have:(S1++(T1++T2)).Perm (T1++(S1++T2)):=by
   rw[<- fE,<- fE];exact List.Perm.append_right T2 List.perm_append_comm
  exact this.trans (q2.append_left T1)
theorem ay.at{α:Type}{a:α}:∀{l:List α} {k:Nat},l[k]? =some a->ay a l (l.eraseIdx k)
 |[],k,h=>by simp at h
 |b::l,0,h=>by
  simp at h;subst h;exact .here
 |b::l,k+1,h=>.there (ay.at (l:=l) (k:=k) (by simpa using h))
theorem Re{α:Type}(a:α):∀(l:List α) (k:Nat),(l.set k a).eraseIdx k=l.eraseIdx k
 |[],k=>rfl
 |b::l,0=>rfl
 |b::l,k+1=>by simp[Re a l k]
theorem R.perm{B:List Nat}{w0:Wd}{kl dM:List OA}{F:List aH}{Q:IH->Prop}(hp:∀w S,fB w kl S->∃S',fB w dM S'/\S.Perm S')(h:R Q B w0 dM F):R Q B w0 kl F:=λw s=>by
 obtain⟨S,h1,h2,h3⟩:=s.own;obtain⟨S',q1,q2⟩:=hp w S h1;exact h w ⟨s.agree,s.le,s.fH,⟨S',q1,q2.nodup h2,λi hi=>h3 i (q2.mem_iff.2 hi)⟩,s.facts⟩
abbrev LM(r:Nat):Deferred:={target:=.collected r,args:= #[]}
def BN(rs:List Nat):OA:=⟨λw S=>fB w (rs.map λr=>pt r (.ig true)) S,λa h hp=>fB.loc a h hp⟩
section
variable {B:List Nat} {w0:Wd} {kl kl' bq k1 k2:List OA} {F:List aH} {K:KO} {n:Nat} {l:List (Nat×Value)} {D:List Deferred} {pm:Option FrameMode} {ro:Option Nat} {Q:IH->Prop}
theorem abk(h:R Q B w0 (BN []::kl) F):R Q B w0 kl F:=.perm (dM:=BN []::kl) (λw S hS=>⟨S,⟨[],S,rfl,hS,rfl⟩,.refl _⟩) h
theorem Rf{rs:List Nat}{r:Nat}(hk:ay (BN rs) kl k1:=by exact gD)(hr:ay (pt r (.ig true)) k1 k2:=by exact gD)(h:R Q B w0 (BN (r::rs)::k2) F):R Q B w0 kl F:=
 .perm (λw S hS=>by
  obtain⟨S1,S2,q1,q2,hp⟩:=hS.jD (.cons hk (.cons hr .nil));obtain⟨T1,T2,u1,⟨T3,T4,u2,u3,e3⟩,e⟩:=q1;have u3:T4=[]:=u3;subst u3 e3 e;refine⟨(T3++T1)++S2,⟨T3++T1,S2,⟨T3,T1,u2,u1,rfl⟩,q2,rfl⟩,?_⟩;rw[gy]at hp;exact hp.trans (List.Perm.append_right S2 List.perm_append_comm)) h
theorem jq.ofMap:∀(rs:List Nat) (kl:List OA),jq ((rs.map λr=>pt r (.ig true))++kl) (rs.map LM) kl
 |[],kl=>.nil
 |r::rs,kl=>.cons .here (jq.ofMap rs kl)
theorem Rh{Y:Type}{o:Out}{cf:gN}{vs:List Value}{val:Y->Value}{k1:Y->List OA}{fs:Y->List aH}{pr:Y->Prop}{dM:List OA}{rs:List Nat}(y:Y)(hc:ay (BN rs) kl dM:=by exact gD)
 (hr:RS l dM cf.results vs:=by exact zJ) (hv:qH vs=val y) (hp:pr y)
 (hk:aI (k1 y) dM bq:=by exact l8) (hF:Sub (fs y) F:=by exact lJ)
 (ho:o=.normal\/o=.ret:=by first|exact .inl rfl|exact .inr rfl):R (λh=>pX P cf (Left B w0 val k1 fs pr) o (act n l (rs.map LM) none ro) h) B w0 kl F:=
 .perm (dM:=(rs.map λr=>pt r (.ig true))++dM) (λw S hS=>by
  obtain⟨S',⟨T1,T2,u1,u2,e⟩,hp⟩:=hS.fV hc;exact⟨S',by rw[e];exact fB.app u1 u2,hp⟩) (Q6 y (jq.ofMap rs dM) hr hv hp hk hF ho)
def LP{X:Type}(n:Nat)(D:X->List Deferred)(pm:Option FrameMode)(ro:Option Nat)(B:List Nat)(w0:Wd)(m:X->Nat)(L:X->List (Nat×Value))(KL:X->List OA)(FF:X->List aH)(inv:X->Prop)
 (l0:List (Nat×Value)) (bq:List OA) (F0:List aH):Nat->aW->IH->Prop:=λr a h=>
 ∃(x:X) (w:Wd),r=m x/\a=act n (L x++l0) (D x) pm ro/\w.h=h/\St B w0 (KL x++bq) (FF x++F0) w/\inv x
theorem abl{X:Type}{c:dx}{l0:List (Nat×Value)}{L2:X->List (Nat×Value)}{xX:X->List OA}{xY:X->List aH}(DX:X->List Deferred)(m:X->Nat)(L:X->List (Nat×Value))(KL:X->List OA)(FF:X->List aH)(inv:X->Prop)(x0:X)(hi:inv x0)
 (hD:DX x0=D:=by rfl)
 (h0:nS l (L x0) l0:=by repeat (first|exact nS.nil|(apply nS.drop;(focus exact rfl))|(apply nS.keep;(focus exact rfl)))) (hl:sub (L x0++l0) l:=by repeat (first|exact trivial|refine⟨rfl,?_⟩))
 (hk:aI (KL x0) kl bq:=by exact l8) (hF:Sub (FF x0) F:=by exact lJ)
 (hak:∀x,bC (KL x) bq (xX x):=by intro y;repeat (first|exact bC.nil|apply bC.cons|exact bC.self|exact bC.app)) (xW:∀x,bC (FF x) F (xY x):=by intro y;repeat (first|exact bC.nil|apply bC.cons|exact bC.self|exact bC.app))
 (hal:∀x,bC (L x) l0 (L2 x):=by intro y;repeat (first|exact bC.nil|apply bC.cons|exact bC.self|exact bC.app))
 (body:∀x,inv x->R (λh=>EV P c (act n (L2 x) (DX x) pm ro) h (tH (LP n DX pm ro B w0 m L KL FF inv l0 bq F) (m x) K)) B w0 (xX x) (xY x)):
 R (λh=>EV P (.loop c) (act n l D pm ro) h K) B w0 kl F:=by
 intro w s;subst hD;refine K9 (Hf hl) ?_;refine Qr (LP n DX pm ro B w0 m L KL FF inv l0 bq F) ?_ (m x0) _ _ ⟨x0,w,rfl,rfl,rfl,(s.jD hk).add (λf hf=>s.facts f (hF.mem f hf)),hi⟩;rintro r a h ⟨x,w',rfl,rfl,rfl,s',hx⟩;have:=body x hx;rw[<- (hak x).eq,<- (xW x).eq,<- (hal x).eq]at this;exact this w' s'
theorem Ri{X:Type}{DX:X->List Deferred}{m:X->Nat}{L:X->List (Nat×Value)}{KL:X->List OA}{FF:X->List aH}{inv:X->Prop}{l0:List (Nat×Value)}{xZ dM:List OA}{F0:List aH}{m0:Nat}(x:X)(hm:m x<m0)(hi:inv x)
 (hD:DX x=D:=by rfl)
 (hl:sub (L x++l0) l:=by repeat (first|exact trivial|refine⟨rfl,?_⟩)) (ha:bC (KL x) bq xZ:=by repeat (first|exact bC.nil|apply bC.cons|exact bC.self|exact bC.app))
 (hk:aI xZ kl dM:=by exact l8) (hF:Sub (FF x) F:=by exact lJ)
 (vV:jT F0 F:=by repeat (first|exact jT.here|apply jT.cons|apply jT.app)):
 R (λh=>tH (LP n DX pm ro B w0 m L KL FF inv l0 bq F0) m0 K .normal (act n l D pm ro) h) B w0 kl F:=by
 intro w s;subst hD;refine QA (m x) hm hl ⟨x,w,rfl,rfl,rfl,?_,hi⟩;have s':=(s.jD hk).drop;rw[<- ha.eq]at s';exact⟨s'.agree,s'.le,s'.fH,s'.own,λf hf=>(dV.1 hf).elim (λhf=>s.facts f (hF.mem f hf)) (λhf=>s.facts f (vV.mem f hf))⟩
end
end Go.Ideal
namespace Go.Ideal
noncomputable def BP:Nat->T dG->T dG->Bool
 |0,_,_=>false
 |n+1,a,b=>match a,b with
  | .leaf,.leaf=>true
  | .node v l r,.node v' l' r'=>(match v,v' with
    |none,none=>true
    |some o,some o'=>Hl o o'
    |_,_=>false)&&(BP n l l'&&BP n r r')
  |_,_=>false
theorem LQ:∀(n:Nat) {a b:T dG},BP n a b=true->a=b
 |0,_,_,h=>by cases h
 |n+1,a,b,h=>by
  unfold BP at h;split at h
  ·rfl
  ·simp only[gL]at h;obtain⟨h1,h2,h3⟩:=h;rw[LQ n h2,LQ n h3];split at h1
   ·rfl
   ·rw[Qt h1]
   ·cases h1
  ·cases h
end Go.Ideal
namespace Go.Ideal
variable {P:Program}
def LU{X:Type}(n:Nat)(D:List Deferred)(pm:Option FrameMode)(ro:Option Nat)(B:List Nat)(w0:Wd)(L:X->List (Nat×Value))(KL:X->List OA)(FF:X->List aH)(inv:X->Prop)(l0:List (Nat×Value))(bq:List OA)(F0:List aH)(K:KO):KO:=λo a h=>
 match o with
 | .normal=>∃(x:X) (l:List (Nat×Value)) (w:Wd),a=act n l D pm ro/\sub (L x++l0) l/\w.h=h/\St B w0 (KL x++bq) (FF x++F0) w/\inv x
 |o=>K o a h
section
variable {B:List Nat} {w0:Wd} {kl kl' bq k1 k2:List OA} {F:List aH} {K:KO} {n:Nat} {l:List (Nat×Value)} {D:List Deferred} {pm:Option FrameMode} {ro:Option Nat} {Q:IH->Prop}
section
variable {X:Type} {n2:Nat} {D2:List Deferred} {pm2:Option FrameMode} {ro2:Option Nat} {B2:List Nat} {w2:Wd} {L:X->List (Nat×Value)} {KL:X->List OA} {FF:X->List aH} {inv:X->Prop} {l0:List (Nat×Value)} {F0:List aH}
theorem abo{a:aW}{ch:List PanicEntry}(h:R (λh=>K (.panic ch) a h) B w0 kl F):R (λh=>LU n2 D2 pm2 ro2 B2 w2 L KL FF inv l0 bq F0 K (.panic ch) a h) B w0 kl F:=h
theorem H8{xZ dM:List OA}(x:X)(hi:inv x)(hl:sub (L x++l0) l:=by repeat (first|exact trivial|refine⟨rfl,?_⟩))
 (ha:bC (KL x) bq xZ:=by repeat (first|exact bC.nil|apply bC.cons|exact bC.self|exact bC.app))
 (hk:aI xZ kl dM:=by exact l8) (hF:Sub (FF x) F:=by exact lJ)
 (vV:jT F0 F:=by repeat (first|exact jT.here|apply jT.cons|apply jT.app)):
 R (λh=>LU n D pm ro B w0 L KL FF inv l0 bq F0 K .normal (act n l D pm ro) h) B w0 kl F:=λw s=>by
 refine⟨x,l,w,rfl,hl,rfl,?_,hi⟩;have s':=(s.jD hk).drop;rw[<- ha.eq]at s';exact⟨s'.agree,s'.le,s'.fH,s'.own,λf hf=>(dV.1 hf).elim (λhf=>s.facts f (hF.mem f hf)) (λhf=>s.facts f (vV.mem f hf))⟩
end
theorem Rj{X:Type}{x y:dx}{l0:List (Nat×Value)}{L2:X->List (Nat×Value)}{xX:X->List OA}{xY:X->List aH}(ks:List Nat)(L:X->List (Nat×Value))(KL:X->List OA)(FF:X->List aH)(inv:X->Prop)
 (hx:R (λh=>EV P x (act n l D pm ro) h (LU n D pm ro B w0 L KL FF inv l0 bq F K)) B w0 kl F)
 (hy:∀z,inv z->R (λh=>EV P y (act n (L2 z) D pm ro) h K) B w0 (xX z) (xY z))
 (h0:nS l (ks.map λk=>(k,ry)) l0:=by repeat (first|exact nS.nil|(apply nS.drop;(focus exact rfl))|(apply nS.keep;(focus exact rfl))))
 (hal:∀x,bC (L x) l0 (L2 x):=by intro y;repeat (first|exact bC.nil|apply bC.cons|exact bC.self|exact bC.app))
 (hak:∀x,bC (KL x) bq (xX x):=by intro y;repeat (first|exact bC.nil|apply bC.cons|exact bC.self|exact bC.app)) (xW:∀x,bC (FF x) F (xY x):=by intro y;repeat (first|exact bC.nil|apply bC.cons|exact bC.self|exact bC.app)):
 R (λh=>EV P x (act n l D pm ro) h (xM P y K)) B w0 kl F:=λw s=>by
 refine K5 (hx w s) _ ?_;intro o a h hm;cases o with
 |normal=>
  obtain⟨z,l',w',rfl,hl,rfl,s',hz⟩:=hm;have:=hy z hz;rw[<- (hak z).eq,<- (xW z).eq,<- (hal z).eq]at this;exact K9 (Hf hl) (this w' s')
 |exit j=>exact hm
 |ret=>exact hm
 |panic ch=>exact hm
end
end Go.Ideal
namespace Go.Ideal
variable {P:Program}
theorem Rk{n k:Nat}(h:k<=n):upTo n (.int .i64 (k:Int))=some k:=by
 show cond (Nat.ble k n) (some k) none=_;rw[show Nat.ble k n=true from by rw[pu];exact h];rfl
section
variable {B:List Nat} {w0:Wd} {kl kl' bq k1 k2:List OA} {F:List aH} {K:KO} {n:Nat} {l:List (Nat×Value)} {D:List Deferred} {pm:Option FrameMode} {ro:Option Nat} {Q:IH->Prop} {ds:List Tmp} {rest:List bT} {d:Nat} {g:Option (Tmp×Bool)}
theorem Rl{α:Type}{E:Enc α}{v:Value}{xs:List α}{w:Wd}(hf:(ah E v xs).p w){a b:Nat}(hab:a<=b)(hb:b<=xs.length){size:Nat}(hz:E.n=size){x:Operand}{ρ:Operand->Value}(hx:ρ x=v){H9 Ia:Option Operand}
 (hbd:∀c,xs.length<=c->bounds? xs.length c (iR ρ H9) (iR ρ Ia) none=some (a,b,c)):
 ∃u,(aB.vw size x H9 Ia none).run P ρ w.h=some (u,w.h)/\(ah E u ((xs.drop a).take (b - a))).p w/\∃ad m,u=.slice ad (b - a) m:=by
 subst hx hz;have hlen:((xs.drop a).take (b - a)).length=b - a:=by rw[gM,mK];omega
 have h3:iR ρ none=none:=rfl;rcases hf with⟨rfl,ad,c,e,hg⟩|⟨i,o,f,c,cells,⟨e,hc,hf⟩,q2,q3⟩
 ·have hb0:b=0:=by simpa using hb
  subst hb0;have ha0:a=0:=by omega
  subst ha0;have hbd:=hbd c (cz _);rw[CZ]at hbd;match ad,hg with
  |none,_=>exact⟨.slice none 0 c,by simp only[aB.run,e,h3,hbd];rfl,.inl ⟨by simp,_,_,rfl,trivial⟩,_,_,rfl⟩
  |some ⟨i,o,some 0⟩,_=>exact⟨.slice (some ⟨i,o,some 0⟩) 0 c,by
    simp only[aB.run,e,h3,hbd];show some (Value.slice (vB i (Nat.add o (Nat.mul 0 E.n))) (0 - 0) (c - 0),w.h)=_;rw[show Nat.mul 0 E.n=0 from w9 _];rfl,.inl ⟨by simp,_,_,rfl,.inl rfl⟩,_,_,rfl⟩
  |some ⟨i,o,some (k+1)⟩,hg=>
   have hk:k+1=E.n:=by
    rcases hg with h|h
    ·cases h
    ·exact h
   exact⟨.slice (some ⟨i,o,some (k+1)⟩) 0 c,by
    simp only[aB.run,e,h3,hbd];show cond (Nat.beq (Nat.succ k) E.n) (some (Value.slice (some ⟨i,Nat.add o (Nat.mul 0 E.n),some (Nat.succ k)⟩) (0 - 0) (c - 0),w.h)) none=_;rw[show Nat.beq (Nat.succ k) E.n=true by rw[show Nat.succ k=E.n from hk];exact AL _,show Nat.mul 0 E.n=0 from w9 _];rfl,.inl ⟨by simp,_,_,rfl,.inr hk⟩,_,_,rfl⟩
 ·have hbd:=hbd c hc;have hel:∀(k:Nat) y,((xs.drop a).take (b - a))[k]? =some y->∃z,(∀(j:Nat) u,(E.pat y z)[j]? =some u->cells[(o+a*E.n)+k*E.n+j]? =some u)/\∀f∈E.fs y z,f.p w:=λk y hk=>by
   rw[pE]at hk;split at hk
   ·rw[mX]at hk;obtain⟨z,u1,u2⟩:=q3 (a+k) y hk;refine⟨z,λj u hj=>?_,u2⟩;have:=u1 j u hj;rw[pz]at this;rw[show o+a*E.n+k*E.n+j=o+(a*E.n+k*E.n)+j by omega];exact this
   ·cases hk
  match f,hf with
  |0,_=>exact⟨.slice (some ⟨i,o+a*E.n,some 0⟩) (b - a) (c - a),by
    simp only[aB.run,e,h3,hbd];show some (Value.slice (vB i (Nat.add o (Nat.mul a E.n))) (b - a) (c - a),w.h)=_;rfl,.inr ⟨i,o+a*E.n,0,c - a,cells,⟨by rw[hlen],by omega,.inl rfl⟩,q2,hel⟩,_,_,rfl⟩
  |k+1,hf=>
   have hk:k+1=E.n:=by
    rcases hf with h|h
    ·cases h
    ·exact h
   exact⟨.slice (some ⟨i,o+a*E.n,some (k+1)⟩) (b - a) (c - a),by
    simp only[aB.run,e,h3,hbd];show cond (Nat.beq (Nat.succ k) E.n) (some (Value.slice (some ⟨i,Nat.add o (Nat.mul a E.n),some (Nat.succ k)⟩) (b - a) (c - a),w.h)) none=_;rw[show Nat.beq (Nat.succ k) E.n=true by rw[show Nat.succ k=E.n from hk];exact AL _];rfl,.inr ⟨i,o+a*E.n,k+1,c - a,cells,⟨by rw[hlen],by omega,.inr hk⟩,q2,hel⟩,_,_,rfl⟩
theorem Rm{α:Type}(E:Enc α){x hi:Operand}{v:Value}{xs:List α}{size:Nat}(b:Nat)(hb:b<=xs.length)
 (next:∀ad m,R (λh=>aF P ds rest (act n ((d,.slice ad b m)::l) D pm ro) h K) B w0 kl (ah E (.slice ad b m) (xs.take b)::F))
 (hx:ev l x=v:=by conv=>lhs;whnf) (hhi:ev l hi=.int .i64 (b:Int):=by rfl) (hf:ah E v xs∈F:=by exact qI) (hz:E.n=size:=by rfl) (hn:Nat.blt d n=true:=by rfl) (hg:bU l g=true:=by rfl):
 R (λh=>aF P ds (⟨⟨some d,g,.vw size x none (some hi) none⟩,[]⟩::rest) (act n l D pm ro) h K) B w0 kl F:=λw s=>by
 obtain⟨u,h1,h2,ad,m,e⟩:=Rl (P:=P) (s.facts _ hf) (cz b) hb hz hx (H9:=none) (Ia:=some hi) (λc hc=>by
  show bounds? _ _ none (some (ev l hi)) none=_;rw[hhi];show(match upTo c (.int .i64 (b:Int))with|none=>none|some h=>match some 0 with|none=>none|some l=>some (l,h,c))=_;rw[Rk (by omega)])
 subst e;rw[AO]at h1 h2;refine j4 hn hg h1 (next ad m w ?_);rw[uX]at h2;exact(s.add (F':=[ah E (.slice ad b m) (xs.take b)]) (λf hf=>by rw[bH.1 hf];exact h2))
theorem Rn{α:Type}(E:Enc α){x lo:Operand}{v:Value}{xs:List α}{size:Nat}(a:Nat)(ha:a<=xs.length)
 (next:∀ad m,R (λh=>aF P ds rest (act n ((d,.slice ad (xs.length - a) m)::l) D pm ro) h K) B w0 kl (ah E (.slice ad (xs.length - a) m) (xs.drop a)::F))
 (hx:ev l x=v:=by conv=>lhs;whnf) (hlo:ev l lo=.int .i64 (a:Int):=by rfl) (hf:ah E v xs∈F:=by exact qI) (hz:E.n=size:=by rfl) (hn:Nat.blt d n=true:=by rfl) (hg:bU l g=true:=by rfl):
 R (λh=>aF P ds (⟨⟨some d,g,.vw size x (some lo) none none⟩,[]⟩::rest) (act n l D pm ro) h K) B w0 kl F:=λw s=>by
 obtain⟨u,h1,h2,ad,m,e⟩:=Rl (P:=P) (s.facts _ hf) ha (bJ _) hz hx (H9:=some lo) (Ia:=none) (λc hc=>by
  show bounds? _ _ (some (ev l lo)) none none=_;rw[hlo];show(match upTo xs.length (.int .i64 (a:Int))with|none=>none|some l=>some (l,xs.length,c))=_;rw[Rk ha])
 subst e;refine j4 hn hg h1 (next ad m w ?_);rw[sH (by rw[mK];exact bJ _)]at h2;exact(s.add (F':=[ah E (.slice ad (xs.length - a) m) (xs.drop a)]) (λf hf=>by rw[bH.1 hf];exact h2))
end
