/-
  Part IdealMR.
-/
import Derived.Test.YtpkieeggilkagaaGreatIdealLR
set_option linter.all false
namespace Go.Ideal
open Go.ChangeShapes Go.WideShapes Go.ChangeAt Go.RowKit
variable {P:Program}
def jm{α:Type}(P:Program)(t:TypeId)(E:Enc α)(G:α->Prop):Prop:=∀(w:Wd) (H:Type) (d:DataW H) (cs:List Value),(∀i,i<w.h.next->w.z i)->iE P w.h t cs d->∃a y,cs=E.pat a y/\(∀f∈E.fs a y,f.p w)/\G a
def kD(n:Int):Prop:= -9223372036854775808<=n/\n<9223372036854775808
def p9{α:Type}(G:α->Prop)(xs:List α):Prop:=xs.length<9223372036854775808/\∀x∈xs,G x
theorem ab6{t:TypeId}(ht:P.underlying t=some (.int .i64)):jm P t aa kD:=λw H d cs hz r=>by
 obtain⟨n,rfl,_,h⟩:=r.mO ht;refine⟨n,(),rfl,(λf hf=>by cases hf),?_⟩;simp only[Lit.wf,IntKind.min,IntKind.max,IntKind.signed,IntKind.bits,iC,yu]at h;simp at h;exact⟨by omega,by omega⟩
theorem ab7{t:TypeId}(ht:P.underlying t=some .string):jm P t bF (λ_=>True):=λw H d cs hz r=>by
 obtain⟨n,rfl,_⟩:=r.zW ht;exact⟨n,(),rfl,(λf hf=>by cases hf),trivial⟩
theorem xe{α:Type}{t e:TypeId}{E:Enc α}{G:α->Prop}(ht:P.underlying t=some (.slice e))(hn:P.cellsOf e=E.n)(he:jm P e E G):jm P t (ax E) (p9 G):=λw H d cs hz r=>by
 rcases r.nW ht with⟨rfl,_⟩|⟨i,n,c,cells,els,rest,rfl,_,hnc,hl,hcl,hel⟩
 ·exact⟨[],_,rfl,(λf hf=>by rw[bM.1 hf];exact .inl ⟨rfl,none,0,rfl,trivial⟩),by simp,λx hx=>by cases hx⟩
 ·have hmax:maxLen=9223372036854775807:=by decide
  obtain⟨xs,hx1,hx2⟩:=MF (p:=λk a=>(∃y,(cells.drop (k*E.n)).take E.n=E.pat a y/\∀f∈E.fs a y,f.p w)/\G a) n (λk hk=>by
   have hk':k<els.length:=by omega
   have:=hel k els[k] (bN hk');rw[hn]at this;obtain⟨a,y,q1,q2,q3⟩:=he w H _ _ hz this;exact⟨a,⟨y,q1,q2⟩,q3⟩)
  refine⟨xs,_,rfl,λf hf=>?_,by omega,λx hx=>?_⟩
  ·rw[bM.1 hf];rcases hcl with h0|hcl
   ·left;have:xs=[]:=jQ.1 (by omega);exact⟨this,some ⟨i,0,some 0⟩,c,by rw[h0],Or.inl rfl⟩
   ·right;refine⟨i,0,0,c,cells,⟨by rw[hx1],by rw[hx1];exact hnc.1,.inl rfl⟩,⟨hz i hcl.1,hcl.2⟩,λk x hk=>?_⟩;obtain⟨⟨y,q1,q2⟩,_⟩:=hx2 k x hk;refine⟨y,λj u hj=>?_,q2⟩;rw[<- q1,vw]at hj;split at hj
    ·rw[qX]at hj;rw[fC];exact hj
    ·cases hj
  ·obtain⟨k,hk⟩:=nA hx;exact(hx2 k x hk).2
inductive Ao(P:Program):{α:Type}->List Field->Enc α->(α->Prop)->Prop
 |nil:Ao P [] Sb (λ_=>True)
 |cons {α β:Type} {f:Field} {fs:List Field} {E1:Enc α} {E2:Enc β} {G1:α->Prop} {G2:β->Prop} (h:jm P f.type E1 G1) (hn:P.cellsOf f.type=E1.n) (t:Ao P fs E2 G2):Ao P (f::fs) (Sa E1 E2) (λx=>G1 x.1/\G2 x.2)
theorem Ao.II{w:Wd}{H:Type}(hz:∀i,i<w.h.next->w.z i):∀{α:Type} {fs:List Field} {E:Enc α} {G:α->Prop},Ao P fs E G->∀(o0:Nat) (cs:List Value) (ds:List (DataW H)),cs.length=(fs.map λf=>P.cellsOf f.type).sum->ds.length=fs.length->
 fs.map (·.offset)=sums o0 (fs.map λf=>P.cellsOf f.type)->(∀(j:Nat) f d,fs[j]? =some f->ds[j]? =some d->iE P w.h f.type ((cs.drop (f.offset - o0)).take (P.cellsOf f.type)) d)->∃a y,cs=E.pat a y/\(∀f∈E.fs a y,f.p w)/\G a
 |_,_,_,_,.nil,o0,cs,ds,h1,h2,h3,h4=>⟨(),(),jQ.1 (by simpa using h1),(λf hf=>by cases hf),trivial⟩
 |_,_,_,_,.cons (f:=f) (fs:=fs) (E1:=E1) (E2:=E2) h hn t,o0,cs,ds,h1,h2,h3,h4=>by
  match ds,h2 with
  |d::ds,h2=>
   simp only[ik,List.sum_cons,sums,Bw]at h1 h3;obtain⟨ho,h3⟩:=h3;have r0:=h4 0 f d rfl rfl;rw[ho,BB,DC]at r0;obtain⟨a,y,q1,q2,q3⟩:=h w H d _ hz r0;obtain⟨b,z,u1,u2,u3⟩:=Ao.II hz t (o0+P.cellsOf f.type) (cs.drop (P.cellsOf f.type)) ds (by rw[ww];omega) (by simpa using h2) h3 (λj g e hg he=>by
    have:=h4 (j+1) g e hg he;rw[List.drop_drop];have hle:o0+P.cellsOf f.type<=g.offset:=by
     have hj:(fs.map (·.offset))[j]? =some g.offset:=by rw[fw,hg];rfl
     rw[h3]at hj;have hs:(fs.map λf=>P.cellsOf f.type)[j]? =some (P.cellsOf g.type):=by rw[fw,hg];rfl
     exact(yS _ ([]:List Value) (o0+P.cellsOf f.type) j _ _ hj hs).2
    rw[show P.cellsOf f.type+(g.offset - (o0+P.cellsOf f.type))=g.offset - o0 by omega];exact this)
   refine⟨(a,b),(y,z),?_,?_,q3,u3⟩
   ·show cs=E1.pat a y++E2.pat b z;rw[<- q1,<- u1,su]
   ·intro g hg;rcases dB.1 hg with hg|hg
    ·exact q2 g hg
    ·exact u2 g hg
theorem xk{α:Type}{t:TypeId}{fs:Array Field}{E:Enc α}{G:α->Prop}(ht:P.underlying t=some (.struct fs))(ho:fs.toList.map (·.offset)=sums 0 (fs.toList.map λf=>P.cellsOf f.type))
 (hs:P.cellsOf t=(fs.toList.map λf=>P.cellsOf f.type).sum) (h:Ao P fs.toList E G):jm P t E G:=λw H d cs hz r=>by
 obtain⟨ds,_,h1,h2,h3⟩:=r.RU ht;refine h.II hz 0 cs ds (by rw[h1,hs]) (by simpa using h2) ho λj f d hf hd=>?_;rw[Dy];exact h3 j f d (by rw[<- zB];exact hf) hd
theorem jm.conv{α β:Type}{t:TypeId}{E:Enc α}{E':Enc β}{G:α->Prop}{G':β->Prop}(h:jm P t E G)(hc:∀a y,G a->∃b z,E.pat a y=E'.pat b z/\E.fs a y=E'.fs b z/\G' b):jm P t E' G':=λw H d cs hz r=>by
 obtain⟨a,y,q1,q2,q3⟩:=h w H d cs hz r;obtain⟨b,z,e1,e2,e3⟩:=hc a y q3;exact⟨b,z,by rw[q1,e1],(λf hf=>q2 f (by rw[e2];exact hf)),e3⟩
section
variable {H:Type}
theorem vM.Sl{α:Type}{w:Wd}{t:TypeId}{v:Value}{d:DataW H}{E:Enc α}{G:α->Prop}(h:vM P w t v d)(hz:∀i,i<w.h.next->w.z i)(ha:jG P t=true)(hr:jm P t E G):∃a y,v=.agg ⟨E.pat a y⟩/\(∀f∈E.fs a y,f.p w)/\G a:=by
 obtain⟨cs,r,⟨_,e⟩|⟨e,_⟩⟩:=h
 ·obtain⟨a,y,rfl,q⟩:=hr w H d cs hz r;exact⟨a,y,e,q⟩
 ·rw[ha]at e;cases e
theorem vM.oneG{α:Type}{w:Wd}{t:TypeId}{v:Value}{d:DataW H}{E:Enc α}{G:α->Prop}(h:vM P w t v d)(hz:∀i,i<w.h.next->w.z i)(ha:jG P t=false)(hr:jm P t E G):∃a y,E.pat a y=[v]/\(∀f∈E.fs a y,f.p w)/\G a:=by
 obtain⟨cs,r,⟨e,_⟩|⟨_,e⟩⟩:=h
 ·rw[ha]at e;cases e
 ·obtain⟨a,y,q0,q⟩:=hr w H d cs hz r;exact⟨a,y,by rw[<- q0,e],q⟩
end
end Go.Ideal
namespace Go.Ideal
variable {P:Program}
theorem eU.IU{w:Wd}{A:OA}:∀{kl kl':List OA} {S:List Nat},aA A kl kl'->eU w (A::kl') S->∃S',eU w kl S'/\S.Perm S'
 |_,_,S,.here,h=>⟨S,h,.refl _⟩
 |_,_,_,.there (C:=C) (l:=l) (l':=l') s,⟨S1,S2,h1,⟨T1,T2,h2,h3,e2⟩,e⟩=>by
  subst e e2;obtain⟨S',q1,q2⟩:=eU.IU (w:=w) (A:=A) s ⟨S1,T2,h1,h3,rfl⟩;refine⟨T1++S',⟨T1,S',h2,q1,rfl⟩,?_⟩;have:(S1++(T1++T2)).Perm (T1++(S1++T2)):=by
   rw[<- fI,<- fI];exact List.Perm.append_right T2 List.perm_append_comm
  exact this.trans (q2.append_left T1)
theorem aA.at{α:Type}{a:α}:∀{l:List α} {k:Nat},l[k]? =some a->aA a l (l.eraseIdx k)
 |[],k,h=>by simp at h
 |b::l,0,h=>by
  simp at h;subst h;exact .here
 |b::l,k+1,h=>.there (aA.at (l:=l) (k:=k) (by simpa using h))
theorem ML{α:Type}(a:α):∀(l:List α) (k:Nat),(l.set k a).eraseIdx k=l.eraseIdx k
 |[],k=>rfl
 |b::l,0=>rfl
 |b::l,k+1=>by simp[ML a l k]
theorem R.perm{B:List Nat}{w0:Wd}{kl dX:List OA}{F:List aL}{Q:IH->Prop}(hp:∀w S,eU w kl S->∃S',eU w dX S'/\S.Perm S')(h:R Q B w0 dX F):R Q B w0 kl F:=λw s=>by
 obtain⟨S,h1,h2,h3⟩:=s.own;obtain⟨S',q1,q2⟩:=hp w S h1;exact h w ⟨s.agree,s.le,s.gp,⟨S',q1,q2.nodup h2,λi hi=>h3 i (q2.mem_iff.2 hi)⟩,s.facts⟩
abbrev MM(r:Nat):Deferred:={target:=.collected r,args:= #[]}
def Cy(rs:List Nat):OA:=⟨λw S=>eU w (rs.map λr=>pt r (.ic true)) S,λa h hp=>eU.loc a h hp⟩
section
variable {B:List Nat} {w0:Wd} {kl kl' bA k1 k2:List OA} {F:List aL} {K:KO} {n:Nat} {l:List (Nat×Value)} {D:List Deferred} {pm:Option FrameMode} {ro:Option Nat} {Q:IH->Prop}
theorem ab8(h:R Q B w0 (Cy []::kl) F):R Q B w0 kl F:=.perm (dX:=Cy []::kl) (λw S hS=>⟨S,⟨[],S,rfl,hS,rfl⟩,.refl _⟩) h
theorem ab9{rs:List Nat}{r:Nat}(hk:aA (Cy rs) kl k1:=by exact gz)(hr:aA (pt r (.ic true)) k1 k2:=by exact gz)(h:R Q B w0 (Cy (r::rs)::k2) F):R Q B w0 kl F:=
 .perm (λw S hS=>by
  obtain⟨S1,S2,q1,q2,hp⟩:=hS.jH (.cons hk (.cons hr .nil));obtain⟨T1,T2,u1,⟨T3,T4,u2,u3,e3⟩,e⟩:=q1;have u3:T4=[]:=u3;subst u3 e3 e;refine⟨(T3++T1)++S2,⟨T3++T1,S2,⟨T3,T1,u2,u1,rfl⟩,q2,rfl⟩,?_⟩;rw[gV]at hp;exact hp.trans (List.Perm.append_right S2 List.perm_append_comm)) h
theorem jA.ofMap:∀(rs:List Nat) (kl:List OA),jA ((rs.map λr=>pt r (.ic true))++kl) (rs.map MM) kl
 |[],kl=>.nil
 |r::rs,kl=>.cons .here (jA.ofMap rs kl)
theorem acd{Y:Type}{o:Out}{cf:gW}{vs:List Value}{val:Y->Value}{k1:Y->List OA}{fs:Y->List aL}{pr:Y->Prop}{dX:List OA}{rs:List Nat}(y:Y)(hc:aA (Cy rs) kl dX:=by exact gz)
 (hr:RS l dX cf.results vs:=by exact Ak) (hv:rO vs=val y) (hp:pr y)
 (hk:aJ (k1 y) dX bA:=by exact mh) (hF:Sub (fs y) F:=by exact mg)
 (ho:o=.normal\/o=.ret:=by first|exact .inl rfl|exact .inr rfl):R (λh=>qE P cf (Left B w0 val k1 fs pr) o (act n l (rs.map MM) none ro) h) B w0 kl F:=
 .perm (dX:=(rs.map λr=>pt r (.ic true))++dX) (λw S hS=>by
  obtain⟨S',⟨T1,T2,u1,u2,e⟩,hp⟩:=hS.fZ hc;exact⟨S',by rw[e];exact eU.app u1 u2,hp⟩) (Sg y (jA.ofMap rs dX) hr hv hp hk hF ho)
def MN{X:Type}(n:Nat)(D:X->List Deferred)(pm:Option FrameMode)(ro:Option Nat)(B:List Nat)(w0:Wd)(m:X->Nat)(L:X->List (Nat×Value))(KL:X->List OA)(FF:X->List aL)(inv:X->Prop)
 (l0:List (Nat×Value)) (bA:List OA) (F0:List aL):Nat->aX->IH->Prop:=λr a h=>
 ∃(x:X) (w:Wd),r=m x/\a=act n (L x++l0) (D x) pm ro/\w.h=h/\St B w0 (KL x++bA) (FF x++F0) w/\inv x
theorem ace{X:Type}{c:dm}{l0:List (Nat×Value)}{L2:X->List (Nat×Value)}{yX:X->List OA}{yY:X->List aL}(DX:X->List Deferred)(m:X->Nat)(L:X->List (Nat×Value))(KL:X->List OA)(FF:X->List aL)(inv:X->Prop)(x0:X)(hi:inv x0)
 (hD:DX x0=D:=by rfl)
 (h0:oL l (L x0) l0:=by repeat (first|exact oL.nil|(apply oL.drop;(focus exact rfl))|(apply oL.keep;(focus exact rfl)))) (hl:sub (L x0++l0) l:=by repeat (first|exact trivial|refine⟨rfl,?_⟩))
 (hk:aJ (KL x0) kl bA:=by exact mh) (hF:Sub (FF x0) F:=by exact mg)
 (hak:∀x,aY (KL x) bA (yX x):=by intro y;repeat (first|exact aY.nil|apply aY.cons|exact aY.self|exact aY.app)) (yV:∀x,aY (FF x) F (yY x):=by intro y;repeat (first|exact aY.nil|apply aY.cons|exact aY.self|exact aY.app))
 (hal:∀x,aY (L x) l0 (L2 x):=by intro y;repeat (first|exact aY.nil|apply aY.cons|exact aY.self|exact aY.app))
 (body:∀x,inv x->R (λh=>EV P c (act n (L2 x) (DX x) pm ro) h (uK (MN n DX pm ro B w0 m L KL FF inv l0 bA F) (m x) K)) B w0 (yX x) (yY x)):
 R (λh=>EV P (.loop c) (act n l D pm ro) h K) B w0 kl F:=by
 intro w s;subst hD;refine Mc (Hf hl) ?_;refine Ro (MN n DX pm ro B w0 m L KL FF inv l0 bA F) ?_ (m x0) _ _ ⟨x0,w,rfl,rfl,rfl,(s.jH hk).add (λf hf=>s.facts f (hF.mem f hf)),hi⟩;rintro r a h ⟨x,w',rfl,rfl,rfl,s',hx⟩;have:=body x hx;rw[<- (hak x).eq,<- (yV x).eq,<- (hal x).eq]at this;exact this w' s'
theorem MO{X:Type}{DX:X->List Deferred}{m:X->Nat}{L:X->List (Nat×Value)}{KL:X->List OA}{FF:X->List aL}{inv:X->Prop}{l0:List (Nat×Value)}{yZ dX:List OA}{F0:List aL}{m0:Nat}(x:X)(hm:m x<m0)(hi:inv x)
 (hD:DX x=D:=by rfl)
 (hl:sub (L x++l0) l:=by repeat (first|exact trivial|refine⟨rfl,?_⟩)) (ha:aY (KL x) bA yZ:=by repeat (first|exact aY.nil|apply aY.cons|exact aY.self|exact aY.app))
 (hk:aJ yZ kl dX:=by exact mh) (hF:Sub (FF x) F:=by exact mg)
 (wY:j6 F0 F:=by repeat (first|exact j6.here|apply j6.cons|apply j6.app)):
 R (λh=>uK (MN n DX pm ro B w0 m L KL FF inv l0 bA F0) m0 K .normal (act n l D pm ro) h) B w0 kl F:=by
 intro w s;subst hD;refine Rz (m x) hm hl ⟨x,w,rfl,rfl,rfl,?_,hi⟩;have s':=(s.jH hk).drop;rw[<- ha.eq]at s';exact⟨s'.agree,s'.le,s'.gp,s'.own,λf hf=>(dB.1 hf).elim (λhf=>s.facts f (hF.mem f hf)) (λhf=>s.facts f (wY.mem f hf))⟩
def uL{α:Type}(E:Enc α)(vs:List Value)(xss:List (List α)):List OA:=(vs.zip xss).map λp=>ap E p.1 p.2
def IV{α:Type}(E:Enc α)(b:Nat)(xss:List (List α)):OA:=
 ⟨λw S=>∃vs:List Value,vs.length=xss.length/\eU w (pt b (.cells vs)::uL E vs xss) S,λa h ⟨vs,h1,h2⟩=>⟨vs,h1,eU.loc a h h2⟩⟩
def Sm{α:Type}(E:Enc α)(vs:List Value)(xss:List (List α))(k:Nat):OA:=
 ⟨λw S=>eU w ((uL E vs xss).eraseIdx k) S,λa h hp=>eU.loc a h hp⟩
theorem acf{α:Type}(E:Enc α){vs:List Value}{xss:List (List α)}{k:Nat}{v:Value}{xs:List α}(hv:vs[k]? =some v)(hx:xss[k]? =some xs):(uL E vs xss)[k]? =some (ap E v xs):=by
 simp[uL,List.zip,fw,PD,hv,hx]
theorem acg{α:Type}(E:Enc α){b:Nat}{xss:List (List α)}{k:Nat}{xs:List α}(hx:xss[k]? =some xs)(hk:aA (IV E b xss) kl kl':=by exact gz)
 (h:∀(vs:List Value) (v:Value),vs.length=xss.length->vs[k]? =some v->R Q B w0 (pt b (.cells vs)::ap E v xs::Sm E vs xss k::kl') F):R Q B w0 kl F:=λw s=>by
 obtain⟨S,⟨S1,S2,⟨vs,h1,h2⟩,q2,e⟩,hnd,hall⟩:=(s.fZ hk).own;subst e;have hlt:=(bK.1 hx).1;have hv:vs[k]? =some (vs[k]'(by omega)):=bN (by omega);refine h vs _ h1 hv w ?_;have hg:(uL E vs xss)[k]? =some (ap E (vs[k]'(by omega)) xs):=acf E hv hx;obtain⟨T1,T2,u1,u2,e⟩:=h2;obtain⟨T3,⟨T4,T5,u4,u5,e5⟩,u6⟩:=u2.fZ (aA.at hg);subst e5 e;have hperm:((T1++T2)++S2).Perm (T1++(T4++(T5++S2))):=by
  rw[fI];refine List.Perm.append_left T1 ?_;rw[<- fI];exact List.Perm.append_right S2 u6
 exact⟨s.agree,s.le,s.gp,⟨T1++(T4++(T5++S2)),⟨T1,_,u1,⟨T4,_,u4,⟨T5,S2,u5,q2,rfl⟩,rfl⟩,rfl⟩,hperm.nodup hnd,λi hi=>hall i (hperm.mem_iff.2 hi)⟩,s.facts⟩
theorem ach{α:Type}(E:Enc α){vs:List Value}{xss:List (List α)}{k:Nat}{v:Value}{xs:List α}:uL E (vs.set k v) (xss.set k xs)=(uL E vs xss).set k (ap E v xs):=by
 apply kP;intro j;simp only[uL,fw,uj,List.zip,PD];by_cases e:k=j
 ·subst e;by_cases h1:k<vs.length
  ·by_cases h2:k<xss.length
   ·simp[h1,h2];omega
   ·simp[h1,h2];omega
  ·simp[h1];omega
 ·simp[e]
theorem aci{α:Type}(E:Enc α){b:Nat}{xss:List (List α)}{vs:List Value}{k:Nat}{v:Value}{xs:List α}(hlen:vs.length=xss.length)(hk:k<xss.length)(h1:aA (pt b (.cells (vs.set k v))) kl k1:=by exact gz)
 (h2:aA (ap E v xs) k1 k2:=by exact gz) (h3:aA (Sm E vs xss k) k2 bA:=by exact gz) (h:R Q B w0 (IV E b (xss.set k xs)::bA) F):R Q B w0 kl F:=
 .perm (λw S hS=>by
  obtain⟨S1,S2,q1,q2,hp⟩:=hS.jH (.cons h1 (.cons h2 (.cons h3 .nil)));obtain⟨T1,U1,u1,⟨T2,U2,u2,⟨T3,U3,u3,u4,e3⟩,e2⟩,e1⟩:=q1;have u4:U3=[]:=u4;subst u4 e3 e2 e1;have hl:((uL E vs xss).set k (ap E v xs))[k]? =some (ap E v xs):=by
   rw[uj,if_pos rfl,if_pos (by simp[uL];omega)]
  obtain⟨V,v1,v2⟩:=eU.IU (aA.at hl) (S:=T2++T3) (w:=w) ⟨T2,T3,u2,by rw[ML];exact u3,rfl⟩;refine⟨(T1++V)++S2,⟨T1++V,S2,⟨vs.set k v,by simp[hlen],⟨T1,V,u1,by rw[ach];exact v1,rfl⟩⟩,q2,rfl⟩,hp.trans ?_⟩;rw[gV];exact List.Perm.append_right S2 (List.Perm.append_left T1 v2)) h
theorem acj{α:Type}(E:Enc α){b m:Nat}(hk:aA (pt b (.cells (List.replicate m (.slice none 0 0)))) kl kl':=by exact gz)(h:R Q B w0 (IV E b (List.replicate m ([]:List α))::kl') F):R Q B w0 kl F:=
 .perm (λw S hS=>by
  obtain⟨S',⟨T1,T2,u1,u2,e⟩,hp⟩:=hS.fZ hk;refine⟨S',⟨T1,T2,⟨List.replicate m (.slice none 0 0),by simp,⟨T1,[],u1,?_,by simp⟩⟩,u2,e⟩,hp⟩;have:∀m,eU w (uL E (List.replicate m (.slice none 0 0)) (List.replicate m [])) []:=by
   intro m;induction m with
   |zero=>rfl
   |succ m ih=>exact⟨[],[],.inl ⟨rfl,rfl,rfl⟩,ih,rfl⟩
  exact this m) h
end
end Go.Ideal
namespace Go.Ideal
noncomputable def Cz:Nat->T dH->T dH->Bool
 |0,_,_=>false
 |n+1,a,b=>match a,b with
  | .leaf,.leaf=>true
  | .node v l r,.node v' l' r'=>(match v,v' with
    |none,none=>true
    |some o,some o'=>Hg o o'
    |_,_=>false)&&(Cz n l l'&&Cz n r r')
  |_,_=>false
theorem MP:∀(n:Nat) {a b:T dH},Cz n a b=true->a=b
 |0,_,_,h=>by cases h
 |n+1,a,b,h=>by
  unfold Cz at h;split at h
  ·rfl
  ·simp only[iC]at h;obtain⟨h1,h2,h3⟩:=h;rw[MP n h2,MP n h3];split at h1
   ·rfl
   ·rw[Rs h1]
   ·cases h1
  ·cases h
noncomputable def MQ(h0:IH)(l:List (Nat×dH))(n:Nat)(fn:Nat)(args:List Value)(v:Value):gN->IH->Option (Value×IH):=λq h=>
 match q with
 |⟨.func f,as,[],none⟩=>cond (Nat.beq f fn&&(oG 5 (.tuple ⟨args⟩) (.tuple ⟨as⟩)&&(Nat.beq h0.next h.next&&(Nat.beq h0.low h.low&&Cz 30 h0.t h.t)))) (some (v,⟨heapT l,n,0⟩)) none
 |_=>none
theorem ack{P:Program}{h0:IH}{l:List (Nat×dH)}{n fn:Nat}{args:List Value}{v:Value}(hall:(List.range h0.next).all (λi=>((heapT l).get i).isSome)=true)
 (hc:CALL P ⟨.func fn,args,[],none⟩ h0 (λr pm h'=>leaves l n v r pm h'=true))
 {q:gN} {h:IH} {v':Value} {h':IH} (hk:MQ h0 l n fn args v q h=some (v',h')):CALL P q h (λr pm h2=>r=.ok v'/\pm=none/\h2=h'):=by
 unfold MQ at hk;split at hk
 ·rename_i f as;cases hcd:(Nat.beq f fn&&(oG 5 (.tuple ⟨args⟩) (.tuple ⟨as⟩)&&(Nat.beq h0.next h.next&&(Nat.beq h0.low h.low&&Cz 30 h0.t h.t))))with
  |false=>rw[hcd]at hk;cases hk
  |true=>
   rw[hcd]at hk;simp only[cond,aH,di]at hk;obtain⟨rfl,rfl⟩:=hk;simp only[iC]at hcd;obtain⟨h1,h2,h3,h4,h5⟩:=hcd;have h1:=j4 h1;subst h1;have h2:=yO _ _ _ h2;injection h2 with h2;injection h2 with h2;subst h2;have e3:=j4 h3;have e4:=j4 h4;have e5:=MP _ h5;clear h3 h4 h5;obtain⟨t0,n0,l0⟩:=h0;obtain⟨t1,n1,l1⟩:=h;dsimp only at e3 e4 e5;subst e3 e4 e5;refine .forget _ hc ?_;intro r pm h' hl;unfold leaves at hl;split at hl
   ·cases hl
   ·split at hl
    ·rename_i v';simp only[iC]at hl;obtain⟨⟨⟨h1,h2⟩,h3⟩,h4⟩:=hl;refine⟨⟨heapT l,n,0⟩,(j4 h2).symm,(j4 h3).symm,?_,?_,rfl,rfl⟩
     ·intro i;rcases Md l i with e|⟨o,e1,e2⟩
      ·refine .inr ⟨?_,e⟩;apply Classical.byContradiction;intro hno;rw[kg]at hall;have:=hall i (uf.2 (Nat.lt_of_not_le hno));rw[e]at this;cases this
      ·left;exact e2.trans (Rt h4 i o e1).symm
     ·rw[yO _ _ _ h1]
    ·cases hl
 ·cases hk
end Go.Ideal
namespace Go.Ideal
variable {P:Program}
def MS{X:Type}(n:Nat)(D:List Deferred)(pm:Option FrameMode)(ro:Option Nat)(B:List Nat)(w0:Wd)(L:X->List (Nat×Value))(KL:X->List OA)(FF:X->List aL)(inv:X->Prop)(l0:List (Nat×Value))(bA:List OA)(F0:List aL)(K:KO):KO:=λo a h=>
 match o with
 | .normal=>∃(x:X) (l:List (Nat×Value)) (w:Wd),a=act n l D pm ro/\sub (L x++l0) l/\w.h=h/\St B w0 (KL x++bA) (FF x++F0) w/\inv x
 |o=>K o a h
section
variable {B:List Nat} {w0:Wd} {kl kl' bA k1 k2:List OA} {F:List aL} {K:KO} {n:Nat} {l:List (Nat×Value)} {D:List Deferred} {pm:Option FrameMode} {ro:Option Nat} {Q:IH->Prop}
section
variable {X:Type} {n2:Nat} {D2:List Deferred} {pm2:Option FrameMode} {ro2:Option Nat} {B2:List Nat} {w2:Wd} {L:X->List (Nat×Value)} {KL:X->List OA} {FF:X->List aL} {inv:X->Prop} {l0:List (Nat×Value)} {F0:List aL}
theorem aco{a:aX}{ch:List PanicEntry}(h:R (λh=>K (.panic ch) a h) B w0 kl F):R (λh=>MS n2 D2 pm2 ro2 B2 w2 L KL FF inv l0 bA F0 K (.panic ch) a h) B w0 kl F:=h
theorem IW{yZ dX:List OA}(x:X)(hi:inv x)(hl:sub (L x++l0) l:=by repeat (first|exact trivial|refine⟨rfl,?_⟩))
 (ha:aY (KL x) bA yZ:=by repeat (first|exact aY.nil|apply aY.cons|exact aY.self|exact aY.app))
 (hk:aJ yZ kl dX:=by exact mh) (hF:Sub (FF x) F:=by exact mg)
 (wY:j6 F0 F:=by repeat (first|exact j6.here|apply j6.cons|apply j6.app)):
 R (λh=>MS n D pm ro B w0 L KL FF inv l0 bA F0 K .normal (act n l D pm ro) h) B w0 kl F:=λw s=>by
 refine⟨x,l,w,rfl,hl,rfl,?_,hi⟩;have s':=(s.jH hk).drop;rw[<- ha.eq]at s';exact⟨s'.agree,s'.le,s'.gp,s'.own,λf hf=>(dB.1 hf).elim (λhf=>s.facts f (hF.mem f hf)) (λhf=>s.facts f (wY.mem f hf))⟩
end
theorem Sn{X:Type}{x y:dm}{l0:List (Nat×Value)}{L2:X->List (Nat×Value)}{yX:X->List OA}{yY:X->List aL}(ks:List Nat)(L:X->List (Nat×Value))(KL:X->List OA)(FF:X->List aL)(inv:X->Prop)
 (hx:R (λh=>EV P x (act n l D pm ro) h (MS n D pm ro B w0 L KL FF inv l0 bA F K)) B w0 kl F)
 (hy:∀z,inv z->R (λh=>EV P y (act n (L2 z) D pm ro) h K) B w0 (yX z) (yY z))
 (h0:oL l (ks.map λk=>(k,sw)) l0:=by repeat (first|exact oL.nil|(apply oL.drop;(focus exact rfl))|(apply oL.keep;(focus exact rfl))))
 (hal:∀x,aY (L x) l0 (L2 x):=by intro y;repeat (first|exact aY.nil|apply aY.cons|exact aY.self|exact aY.app))
 (hak:∀x,aY (KL x) bA (yX x):=by intro y;repeat (first|exact aY.nil|apply aY.cons|exact aY.self|exact aY.app)) (yV:∀x,aY (FF x) F (yY x):=by intro y;repeat (first|exact aY.nil|apply aY.cons|exact aY.self|exact aY.app)):
 R (λh=>EV P x (act n l D pm ro) h (yQ P y K)) B w0 kl F:=λw s=>by
 refine G8 (hx w s) _ ?_;intro o a h hm;cases o with
 |normal=>
  obtain⟨z,l',w',rfl,hl,rfl,s',hz⟩:=hm;have:=hy z hz;rw[<- (hak z).eq,<- (yV z).eq,<- (hal z).eq]at this;exact Mc (Hf hl) (this w' s')
 |exit j=>exact hm
 |ret=>exact hm
 |panic ch=>exact hm
end
end Go.Ideal
namespace Go.Ideal
variable {P:Program}
section
variable {B:List Nat} {w0:Wd} {kl kl' bA k1 k2:List OA} {F:List aL} {K:KO} {n:Nat} {l:List (Nat×Value)} {D:List Deferred} {pm:Option FrameMode} {ro:Option Nat} {Q:IH->Prop} {ds:List Tmp} {rest:List bT} {d:Nat} {g:Option (Tmp×Bool)}
end
