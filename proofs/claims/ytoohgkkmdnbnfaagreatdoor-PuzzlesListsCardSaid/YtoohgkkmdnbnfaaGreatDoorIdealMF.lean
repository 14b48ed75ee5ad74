/-
  The ideal machine, 61: plain data as things, with bounds.
-/
import Derived.Test.YtoohgkkmdnbnfaaGreatDoorIdealLF
set_option linter.all false
namespace Go.Ideal
open Go.ChangeShapes Go.WideShapes Go.ChangeAt Go.RowKit
variable {P:Program}
def jd{α:Type}(P:Program)(t:TypeId)(E:Enc α)(G:α->Prop):Prop:=∀(w:Wd) (H:Type) (d:DataW H) (cs:List Value),(∀i,i<w.h.next->w.z i)->gY P w.h t cs d->∃a y,cs=E.pat a y/\(∀f∈E.fs a y,f.p w)/\G a
def jU(n:Int):Prop:= -9223372036854775808<=n/\n<9223372036854775808
def oF{α:Type}(G:α->Prop)(xs:List α):Prop:=xs.length<9223372036854775808/\∀x∈xs,G x
theorem aaw{t:TypeId}(ht:P.underlying t=some (.int .i64)):jd P t aa jU:=λw H d cs hz r=>by
 obtain⟨n,rfl,_,h⟩:=r.lJ ht;refine⟨n,(),rfl,(λf hf=>by cases hf),?_⟩;simp only[Lit.wf,IntKind.min,IntKind.max,IntKind.signed,IntKind.bits,gG,wJ]at h;simp at h;exact⟨by omega,by omega⟩
theorem aax{t:TypeId}(ht:P.underlying t=some .string):jd P t aR (λ_=>True):=λw H d cs hz r=>by
 obtain⟨n,rfl,_⟩:=r.wX ht;exact⟨n,(),rfl,(λf hf=>by cases hf),trivial⟩
theorem vM{α:Type}{t e:TypeId}{E:Enc α}{G:α->Prop}(ht:P.underlying t=some (.slice e))(hn:P.cellsOf e=E.n)(he:jd P e E G):jd P t (aj E) (oF G):=λw H d cs hz r=>by
 rcases r.mD ht with⟨rfl,_⟩|⟨i,n,c,cells,els,rest,rfl,_,hnc,hl,hcl,hel⟩
 ·exact⟨[],_,rfl,(λf hf=>by rw[bH.1 hf];exact .inl ⟨rfl,none,0,rfl,trivial⟩),by simp,λx hx=>by cases hx⟩
 ·have hmax:maxLen=9223372036854775807:=by decide
  obtain⟨xs,hx1,hx2⟩:=K4 (p:=λk a=>(∃y,(cells.drop (k*E.n)).take E.n=E.pat a y/\∀f∈E.fs a y,f.p w)/\G a) n (λk hk=>by
   have hk':k<els.length:=by omega
   have:=hel k els[k] (cz hk');rw[hn]at this;obtain⟨a,y,q1,q2,q3⟩:=he w H _ _ hz this;exact⟨a,⟨y,q1,q2⟩,q3⟩)
  refine⟨xs,_,rfl,λf hf=>?_,by omega,λx hx=>?_⟩
  ·rw[bH.1 hf];rcases hcl with h0|hcl
   ·left;have:xs=[]:=jI.1 (by omega);exact⟨this,some ⟨i,0,some 0⟩,c,by rw[h0],Or.inl rfl⟩
   ·right;refine⟨i,0,0,c,cells,⟨by rw[hx1],by rw[hx1];exact hnc.1,.inl rfl⟩,⟨hz i hcl.1,hcl.2⟩,λk x hk=>?_⟩;obtain⟨⟨y,q1,q2⟩,_⟩:=hx2 k x hk;refine⟨y,λj u hj=>?_,q2⟩;rw[<- q1,tL]at hj;split at hj
    ·rw[pX]at hj;rw[fw];exact hj
    ·cases hj
  ·obtain⟨k,hk⟩:=mH hx;exact(hx2 k x hk).2
inductive zl(P:Program):{α:Type}->List Field->Enc α->(α->Prop)->Prop
 |nil:zl P [] Qx (λ_=>True)
 |cons {α β:Type} {f:Field} {fs:List Field} {E1:Enc α} {E2:Enc β} {G1:α->Prop} {G2:β->Prop} (h:jd P f.type E1 G1) (hn:P.cellsOf f.type=E1.n) (t:zl P fs E2 G2):zl P (f::fs) (Qw E1 E2) (λx=>G1 x.1/\G2 x.2)
theorem zl.GN{w:Wd}{H:Type}(hz:∀i,i<w.h.next->w.z i):∀{α:Type} {fs:List Field} {E:Enc α} {G:α->Prop},zl P fs E G->∀(o0:Nat) (cs:List Value) (ds:List (DataW H)),cs.length=(fs.map λf=>P.cellsOf f.type).sum->ds.length=fs.length->
 fs.map (·.offset)=sums o0 (fs.map λf=>P.cellsOf f.type)->(∀(j:Nat) f d,fs[j]? =some f->ds[j]? =some d->gY P w.h f.type ((cs.drop (f.offset - o0)).take (P.cellsOf f.type)) d)->∃a y,cs=E.pat a y/\(∀f∈E.fs a y,f.p w)/\G a
 |_,_,_,_,.nil,o0,cs,ds,h1,h2,h3,h4=>⟨(),(),jI.1 (by simpa using h1),(λf hf=>by cases hf),trivial⟩
 |_,_,_,_,.cons (f:=f) (fs:=fs) (E1:=E1) (E2:=E2) h hn t,o0,cs,ds,h1,h2,h3,h4=>by
  match ds,h2 with
  |d::ds,h2=>
   simp only[gN,List.sum_cons,sums,Ac]at h1 h3;obtain⟨ho,h3⟩:=h3;have r0:=h4 0 f d rfl rfl;rw[ho,Ae,yH]at r0;obtain⟨a,y,q1,q2,q3⟩:=h w H d _ hz r0;obtain⟨b,z,u1,u2,u3⟩:=zl.GN hz t (o0+P.cellsOf f.type) (cs.drop (P.cellsOf f.type)) ds (by rw[rR];omega) (by simpa using h2) h3 (λj g e hg he=>by
    have:=h4 (j+1) g e hg he;rw[List.drop_drop];have hle:o0+P.cellsOf f.type<=g.offset:=by
     have hj:(fs.map (·.offset))[j]? =some g.offset:=by rw[fo,hg];rfl
     rw[h3]at hj;have hs:(fs.map λf=>P.cellsOf f.type)[j]? =some (P.cellsOf g.type):=by rw[fo,hg];rfl
     exact(xz _ ([]:List Value) (o0+P.cellsOf f.type) j _ _ hj hs).2
    rw[show P.cellsOf f.type+(g.offset - (o0+P.cellsOf f.type))=g.offset - o0 by omega];exact this)
   refine⟨(a,b),(y,z),?_,?_,q3,u3⟩
   ·show cs=E1.pat a y++E2.pat b z;rw[<- q1,<- u1,rT]
   ·intro g hg;rcases dX.1 hg with hg|hg
    ·exact q2 g hg
    ·exact u2 g hg
theorem vN{α:Type}{t:TypeId}{fs:Array Field}{E:Enc α}{G:α->Prop}(ht:P.underlying t=some (.struct fs))(ho:fs.toList.map (·.offset)=sums 0 (fs.toList.map λf=>P.cellsOf f.type))
 (hs:P.cellsOf t=(fs.toList.map λf=>P.cellsOf f.type).sum) (h:zl P fs.toList E G):jd P t E G:=λw H d cs hz r=>by
 obtain⟨ds,_,h1,h2,h3⟩:=r.Ql ht;refine h.GN hz 0 cs ds (by rw[h1,hs]) (by simpa using h2) ho λj f d hf hd=>?_;rw[Cm];exact h3 j f d (by rw[<- yE];exact hf) hd
theorem jd.conv{α β:Type}{t:TypeId}{E:Enc α}{E':Enc β}{G:α->Prop}{G':β->Prop}(h:jd P t E G)(hc:∀a y,G a->∃b z,E.pat a y=E'.pat b z/\E.fs a y=E'.fs b z/\G' b):jd P t E' G':=λw H d cs hz r=>by
 obtain⟨a,y,q1,q2,q3⟩:=h w H d cs hz r;obtain⟨b,z,e1,e2,e3⟩:=hc a y q3;exact⟨b,z,by rw[q1,e1],(λf hf=>q2 f (by rw[e2];exact hf)),e3⟩
section
variable {H:Type}
theorem xJ.QG{α:Type}{w:Wd}{t:TypeId}{v:Value}{d:DataW H}{E:Enc α}{G:α->Prop}(h:xJ P w t v d)(hz:∀i,i<w.h.next->w.z i)(ha:jK P t=true)(hr:jd P t E G):∃a y,v=.agg ⟨E.pat a y⟩/\(∀f∈E.fs a y,f.p w)/\G a:=by
 obtain⟨cs,r,⟨_,e⟩|⟨e,_⟩⟩:=h
 ·obtain⟨a,y,rfl,q⟩:=hr w H d cs hz r;exact⟨a,y,e,q⟩
 ·rw[ha]at e;cases e
end
end Go.Ideal
namespace Go.Ideal
variable {P:Program}
theorem eX.K7{w:Wd}{A:OA}:∀{kl kl':List OA} {S:List Nat},ay A kl kl'->eX w (A::kl') S->∃S',eX w kl S'/\S.Perm S'
 |_,_,S,.here,h=>⟨S,h,.refl _⟩
 |_,_,_,.there (C:=C) (l:=l) (l':=l') s,⟨S1,S2,h1,⟨T1,T2,h2,h3,e2⟩,e⟩=>by
  subst e e2;obtain⟨S',q1,q2⟩:=eX.K7 (w:=w) (A:=A) s ⟨S1,T2,h1,h3,rfl⟩;refine⟨T1++S',⟨T1,S',h2,q1,rfl⟩,?_⟩;have:(S1++(T1++T2)).Perm (T1++(S1++T2)):=by
   rw[<- fq,<- fq];exact List.Perm.append_right T2 List.perm_append_comm
  exact this.trans (q2.append_left T1)
theorem ay.at{α:Type}{a:α}:∀{l:List α} {k:Nat},l[k]? =some a->ay a l (l.eraseIdx k)
 |[],k,h=>by simp at h
 |b::l,0,h=>by
  simp at h;subst h;exact .here
 |b::l,k+1,h=>.there (ay.at (l:=l) (k:=k) (by simpa using h))
theorem QH{α:Type}(a:α):∀(l:List α) (k:Nat),(l.set k a).eraseIdx k=l.eraseIdx k
 |[],k=>rfl
 |b::l,0=>rfl
 |b::l,k+1=>by simp[QH a l k]
theorem R.perm{B:List Nat}{w0:Wd}{kl dK:List OA}{F:List aF}{Q:IH->Prop}(hp:∀w S,eX w kl S->∃S',eX w dK S'/\S.Perm S')(h:R Q B w0 dK F):R Q B w0 kl F:=λw s=>by
 obtain⟨S,h1,h2,h3⟩:=s.own;obtain⟨S',q1,q2⟩:=hp w S h1;exact h w ⟨s.agree,s.le,s.fF,⟨S',q1,q2.nodup h2,λi hi=>h3 i (q2.mem_iff.2 hi)⟩,s.facts⟩
abbrev K8(r:Nat):Deferred:={target:=.collected r,args:= #[]}
def Bi(rs:List Nat):OA:=⟨λw S=>eX w (rs.map λr=>pt r (.gX true)) S,λa h hp=>eX.loc a h hp⟩
section
variable {B:List Nat} {w0:Wd} {kl kl' bn k1 k2:List OA} {F:List aF} {K:KO} {n:Nat} {l:List (Nat×Value)} {D:List Deferred} {pm:Option FrameMode} {ro:Option Nat} {Q:IH->Prop}
theorem aay(h:R Q B w0 (Bi []::kl) F):R Q B w0 kl F:=.perm (dK:=Bi []::kl) (λw S hS=>⟨S,⟨[],S,rfl,hS,rfl⟩,.refl _⟩) h
theorem QI{rs:List Nat}{r:Nat}(hk:ay (Bi rs) kl k1:=by exact gH)(hr:ay (pt r (.gX true)) k1 k2:=by exact gH)(h:R Q B w0 (Bi (r::rs)::k2) F):R Q B w0 kl F:=
 .perm (λw S hS=>by
  obtain⟨S1,S2,q1,q2,hp⟩:=hS.ji (.cons hk (.cons hr .nil));obtain⟨T1,T2,u1,⟨T3,T4,u2,u3,e3⟩,e⟩:=q1;have u3:T4=[]:=u3;subst u3 e3 e;refine⟨(T3++T1)++S2,⟨T3++T1,S2,⟨T3,T1,u2,u1,rfl⟩,q2,rfl⟩,?_⟩;rw[gK]at hp;exact hp.trans (List.Perm.append_right S2 List.perm_append_comm)) h
theorem jb.ofMap:∀(rs:List Nat) (kl:List OA),jb ((rs.map λr=>pt r (.gX true))++kl) (rs.map K8) kl
 |[],kl=>.nil
 |r::rs,kl=>.cons .here (jb.ofMap rs kl)
theorem QJ{Y:Type}{o:Out}{cf:gL}{vs:List Value}{val:Y->Value}{k1:Y->List OA}{fs:Y->List aF}{pr:Y->Prop}{dK:List OA}{rs:List Nat}(y:Y)(hc:ay (Bi rs) kl dK:=by exact gH)
 (hr:RS l dK cf.results vs:=by exact zh) (hv:qm vs=val y) (hp:pr y)
 (hk:aH (k1 y) dK bn:=by exact lN) (hF:Sub (fs y) F:=by exact kZ)
 (ho:o=.normal\/o=.ret:=by first|exact .inl rfl|exact .inr rfl):R (λh=>pE P cf (Left B w0 val k1 fs pr) o (act n l (rs.map K8) none ro) h) B w0 kl F:=
 .perm (dK:=(rs.map λr=>pt r (.gX true))++dK) (λw S hS=>by
  obtain⟨S',⟨T1,T2,u1,u2,e⟩,hp⟩:=hS.gF hc;exact⟨S',by rw[e];exact eX.app u1 u2,hp⟩) (QA y (jb.ofMap rs dK) hr hv hp hk hF ho)
def K9{X:Type}(n:Nat)(D:X->List Deferred)(pm:Option FrameMode)(ro:Option Nat)(B:List Nat)(w0:Wd)(m:X->Nat)(L:X->List (Nat×Value))(KL:X->List OA)(FF:X->List aF)(inv:X->Prop)
 (l0:List (Nat×Value)) (bn:List OA) (F0:List aF):Nat->aW->IH->Prop:=λr a h=>
 ∃(x:X) (w:Wd),r=m x/\a=act n (L x++l0) (D x) pm ro/\w.h=h/\St B w0 (KL x++bn) (FF x++F0) w/\inv x
theorem aaz{X:Type}{c:di}{l0:List (Nat×Value)}{L2:X->List (Nat×Value)}{xG:X->List OA}{xH:X->List aF}(DX:X->List Deferred)(m:X->Nat)(L:X->List (Nat×Value))(KL:X->List OA)(FF:X->List aF)(inv:X->Prop)(x0:X)(hi:inv x0)
 (hD:DX x0=D:=by rfl)
 (h0:nE l (L x0) l0:=by repeat (first|exact nE.nil|(apply nE.drop;(focus exact rfl))|(apply nE.keep;(focus exact rfl)))) (hl:sub (L x0++l0) l:=by repeat (first|exact trivial|refine⟨rfl,?_⟩))
 (hk:aH (KL x0) kl bn:=by exact lN) (hF:Sub (FF x0) F:=by exact kZ)
 (hak:∀x,bB (KL x) bn (xG x):=by intro y;repeat (first|exact bB.nil|apply bB.cons|exact bB.self|exact bB.app)) (xE:∀x,bB (FF x) F (xH x):=by intro y;repeat (first|exact bB.nil|apply bB.cons|exact bB.self|exact bB.app))
 (hal:∀x,bB (L x) l0 (L2 x):=by intro y;repeat (first|exact bB.nil|apply bB.cons|exact bB.self|exact bB.app))
 (body:∀x,inv x->R (λh=>EV P c (act n (L2 x) (DX x) pm ro) h (sK (K9 n DX pm ro B w0 m L KL FF inv l0 bn F) (m x) K)) B w0 (xG x) (xH x)):
 R (λh=>EV P (.loop c) (act n l D pm ro) h K) B w0 kl F:=by
 intro w s;subst hD;refine Kz (FW hl) ?_;refine PT (K9 n DX pm ro B w0 m L KL FF inv l0 bn F) ?_ (m x0) _ _ ⟨x0,w,rfl,rfl,rfl,(s.ji hk).add (λf hf=>s.facts f (hF.mem f hf)),hi⟩;rintro r a h ⟨x,w',rfl,rfl,rfl,s',hx⟩;have:=body x hx;rw[<- (hak x).eq,<- (xE x).eq,<- (hal x).eq]at this;exact this w' s'
theorem QK{X:Type}{DX:X->List Deferred}{m:X->Nat}{L:X->List (Nat×Value)}{KL:X->List OA}{FF:X->List aF}{inv:X->Prop}{l0:List (Nat×Value)}{xI dK:List OA}{F0:List aF}{m0:Nat}(x:X)(hm:m x<m0)(hi:inv x)
 (hD:DX x=D:=by rfl)
 (hl:sub (L x++l0) l:=by repeat (first|exact trivial|refine⟨rfl,?_⟩)) (ha:bB (KL x) bn xI:=by repeat (first|exact bB.nil|apply bB.cons|exact bB.self|exact bB.app))
 (hk:aH xI kl dK:=by exact lN) (hF:Sub (FF x) F:=by exact kZ)
 (vJ:jM F0 F:=by repeat (first|exact jM.here|apply jM.cons|apply jM.app)):
 R (λh=>sK (K9 n DX pm ro B w0 m L KL FF inv l0 bn F0) m0 K .normal (act n l D pm ro) h) B w0 kl F:=by
 intro w s;subst hD;refine P7 (m x) hm hl ⟨x,w,rfl,rfl,rfl,?_,hi⟩;have s':=(s.ji hk).drop;rw[<- ha.eq]at s';exact⟨s'.agree,s'.le,s'.fF,s'.own,λf hf=>(dX.1 hf).elim (λhf=>s.facts f (hF.mem f hf)) (λhf=>s.facts f (vJ.mem f hf))⟩
end
end Go.Ideal
namespace Go.Ideal
noncomputable def Bj:Nat->T dx->T dx->Bool
 |0,_,_=>false
 |n+1,a,b=>match a,b with
  | .leaf,.leaf=>true
  | .node v l r,.node v' l' r'=>(match v,v' with
    |none,none=>true
    |some o,some o'=>FY o o'
    |_,_=>false)&&(Bj n l l'&&Bj n r r')
  |_,_=>false
theorem La:∀(n:Nat) {a b:T dx},Bj n a b=true->a=b
 |0,_,_,h=>by cases h
 |n+1,a,b,h=>by
  unfold Bj at h;split at h
  ·rfl
  ·simp only[gG]at h;obtain⟨h1,h2,h3⟩:=h;rw[La n h2,La n h3];split at h1
   ·rfl
   ·rw[PV h1]
   ·cases h1
  ·cases h
end Go.Ideal
namespace Go.Ideal
variable {P:Program}
def Lb{X:Type}(n:Nat)(D:List Deferred)(pm:Option FrameMode)(ro:Option Nat)(B:List Nat)(w0:Wd)(L:X->List (Nat×Value))(KL:X->List OA)(FF:X->List aF)(inv:X->Prop)(l0:List (Nat×Value))(bn:List OA)(F0:List aF)(K:KO):KO:=λo a h=>
 match o with
 | .normal=>∃(x:X) (l:List (Nat×Value)) (w:Wd),a=act n l D pm ro/\sub (L x++l0) l/\w.h=h/\St B w0 (KL x++bn) (FF x++F0) w/\inv x
 |o=>K o a h
section
variable {B:List Nat} {w0:Wd} {kl kl' bn k1 k2:List OA} {F:List aF} {K:KO} {n:Nat} {l:List (Nat×Value)} {D:List Deferred} {pm:Option FrameMode} {ro:Option Nat} {Q:IH->Prop}
section
variable {X:Type} {n2:Nat} {D2:List Deferred} {pm2:Option FrameMode} {ro2:Option Nat} {B2:List Nat} {w2:Wd} {L:X->List (Nat×Value)} {KL:X->List OA} {FF:X->List aF} {inv:X->Prop} {l0:List (Nat×Value)} {F0:List aF}
theorem aaC{a:aW}{ch:List PanicEntry}(h:R (λh=>K (.panic ch) a h) B w0 kl F):R (λh=>Lb n2 D2 pm2 ro2 B2 w2 L KL FF inv l0 bn F0 K (.panic ch) a h) B w0 kl F:=h
theorem GU{xI dK:List OA}(x:X)(hi:inv x)(hl:sub (L x++l0) l:=by repeat (first|exact trivial|refine⟨rfl,?_⟩))
 (ha:bB (KL x) bn xI:=by repeat (first|exact bB.nil|apply bB.cons|exact bB.self|exact bB.app))
 (hk:aH xI kl dK:=by exact lN) (hF:Sub (FF x) F:=by exact kZ)
 (vJ:jM F0 F:=by repeat (first|exact jM.here|apply jM.cons|apply jM.app)):
 R (λh=>Lb n D pm ro B w0 L KL FF inv l0 bn F0 K .normal (act n l D pm ro) h) B w0 kl F:=λw s=>by
 refine⟨x,l,w,rfl,hl,rfl,?_,hi⟩;have s':=(s.ji hk).drop;rw[<- ha.eq]at s';exact⟨s'.agree,s'.le,s'.fF,s'.own,λf hf=>(dX.1 hf).elim (λhf=>s.facts f (hF.mem f hf)) (λhf=>s.facts f (vJ.mem f hf))⟩
end
theorem QL{X:Type}{x y:di}{l0:List (Nat×Value)}{L2:X->List (Nat×Value)}{xG:X->List OA}{xH:X->List aF}(ks:List Nat)(L:X->List (Nat×Value))(KL:X->List OA)(FF:X->List aF)(inv:X->Prop)
 (hx:R (λh=>EV P x (act n l D pm ro) h (Lb n D pm ro B w0 L KL FF inv l0 bn F K)) B w0 kl F)
 (hy:∀z,inv z->R (λh=>EV P y (act n (L2 z) D pm ro) h K) B w0 (xG z) (xH z))
 (h0:nE l (ks.map λk=>(k,qJ)) l0:=by repeat (first|exact nE.nil|(apply nE.drop;(focus exact rfl))|(apply nE.keep;(focus exact rfl))))
 (hal:∀x,bB (L x) l0 (L2 x):=by intro y;repeat (first|exact bB.nil|apply bB.cons|exact bB.self|exact bB.app))
 (hak:∀x,bB (KL x) bn (xG x):=by intro y;repeat (first|exact bB.nil|apply bB.cons|exact bB.self|exact bB.app)) (xE:∀x,bB (FF x) F (xH x):=by intro y;repeat (first|exact bB.nil|apply bB.cons|exact bB.self|exact bB.app)):
 R (λh=>EV P x (act n l D pm ro) h (xu P y K)) B w0 kl F:=λw s=>by
 refine Ku (hx w s) _ ?_;intro o a h hm;cases o with
 |normal=>
  obtain⟨z,l',w',rfl,hl,rfl,s',hz⟩:=hm;have:=hy z hz;rw[<- (hak z).eq,<- (xE z).eq,<- (hal z).eq]at this;exact Kz (FW hl) (this w' s')
 |exit j=>exact hm
 |ret=>exact hm
 |panic ch=>exact hm
end
end Go.Ideal
namespace Go.Ideal
variable {P:Program}
section
variable {B:List Nat} {w0:Wd} {kl kl' bn k1 k2:List OA} {F:List aF} {K:KO} {n:Nat} {l:List (Nat×Value)} {D:List Deferred} {pm:Option FrameMode} {ro:Option Nat} {Q:IH->Prop} {ds:List Tmp} {rest:List bR} {d:Nat} {g:Option (Tmp×Bool)}
end
