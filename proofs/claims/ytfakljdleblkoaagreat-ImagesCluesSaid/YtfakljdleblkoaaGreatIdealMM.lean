/-
  The ideal machine, 61: plain data as things, with bounds.
-/
import Derived.Test.YtfakljdleblkoaaGreatIdealLM
set_option linter.all false
namespace Go.Ideal
open Go.ChangeShapes Go.WideShapes Go.ChangeAt Go.RowKit
variable {P:Program}
def jd{α:Type}(P:Program)(t:TypeId)(E:Enc α)(G:α->Prop):Prop:=∀(w:Wd) (H:Type) (d:DataW H) (cs:List Value),(∀i,i<w.h.next->w.z i)->iD P w.h t cs d->∃a y,cs=E.pat a y/\(∀f∈E.fs a y,f.p w)/\G a
def lD(n:Int):Prop:= -9223372036854775808<=n/\n<9223372036854775808
def qj{α:Type}(G:α->Prop)(xs:List α):Prop:=xs.length<9223372036854775808/\∀x∈xs,G x
theorem aex{t:TypeId}(ht:P.underlying t=some (.int .i64)):jd P t ae lD:=λw H d cs hz r=>by
 obtain⟨n,rfl,_,h⟩:=r.mq ht;refine⟨n,(),rfl,(λf hf=>by cases hf),?_⟩;simp only[Lit.wf,IntKind.min,IntKind.max,IntKind.signed,IntKind.bits,eU,BX]at h;simp at h;exact⟨by omega,by omega⟩
theorem aey{t:TypeId}(ht:P.underlying t=some .string):jd P t ji (λ_=>True):=λw H d cs hz r=>by
 obtain⟨n,rfl,_⟩:=r.AQ ht;exact⟨n,(),rfl,(λf hf=>by cases hf),trivial⟩
theorem xO{α:Type}{t e:TypeId}{E:Enc α}{G:α->Prop}(ht:P.underlying t=some (.slice e))(hn:P.cellsOf e=E.n)(he:jd P e E G):jd P t (aB E) (qj G):=λw H d cs hz r=>by
 rcases r.ni ht with⟨rfl,_⟩|⟨i,n,c,cells,els,rest,rfl,_,hnc,hl,hcl,hel⟩
 ·exact⟨[],_,rfl,(λf hf=>by rw[bO.1 hf];exact .inl ⟨rfl,none,0,rfl,trivial⟩),by simp,λx hx=>by cases hx⟩
 ·have hmax:maxLen=9223372036854775807:=by decide
  obtain⟨xs,hx1,hx2⟩:=Jk (p:=λk a=>(∃y,(cells.drop (k*E.n)).take E.n=E.pat a y/\∀f∈E.fs a y,f.p w)/\G a) n (λk hk=>by
   have hk':k<els.length:=by omega
   have:=hel k els[k] (bC hk');rw[hn]at this;obtain⟨a,y,q1,q2,q3⟩:=he w H _ _ hz this;exact⟨a,⟨y,q1,q2⟩,q3⟩)
  refine⟨xs,_,rfl,λf hf=>?_,by omega,λx hx=>?_⟩
  ·rw[bO.1 hf];rcases hcl with h0|hcl
   ·left;have:xs=[]:=lQ.1 (by omega);exact⟨this,some ⟨i,0,some 0⟩,c,by rw[h0],Or.inl rfl⟩
   ·right;refine⟨i,0,0,c,cells,⟨by rw[hx1],by rw[hx1];exact hnc.1,.inl rfl⟩,⟨hz i hcl.1,hcl.2⟩,λk x hk=>?_⟩;obtain⟨⟨y,q1,q2⟩,_⟩:=hx2 k x hk;refine⟨y,λj u hj=>?_,q2⟩;rw[<- q1,uF]at hj;split at hj
    ·rw[oh]at hj;rw[fw];exact hj
    ·cases hj
  ·obtain⟨k,hk⟩:=jm hx;exact(hx2 k x hk).2
inductive Bf(P:Program):{α:Type}->List Field->Enc α->(α->Prop)->Prop
 |nil:Bf P [] UE (λ_=>True)
 |cons {α β:Type} {f:Field} {fs:List Field} {E1:Enc α} {E2:Enc β} {G1:α->Prop} {G2:β->Prop} (h:jd P f.type E1 G1) (hn:P.cellsOf f.type=E1.n) (t:Bf P fs E2 G2):Bf P (f::fs) (UD E1 E2) (λx=>G1 x.1/\G2 x.2)
theorem Bf.Jl{w:Wd}{H:Type}(hz:∀i,i<w.h.next->w.z i):∀{α:Type} {fs:List Field} {E:Enc α} {G:α->Prop},Bf P fs E G->∀(o0:Nat) (cs:List Value) (ds:List (DataW H)),cs.length=(fs.map λf=>P.cellsOf f.type).sum->ds.length=fs.length->
 fs.map (·.offset)=sums o0 (fs.map λf=>P.cellsOf f.type)->(∀(j:Nat) f d,fs[j]? =some f->ds[j]? =some d->iD P w.h f.type ((cs.drop (f.offset - o0)).take (P.cellsOf f.type)) d)->∃a y,cs=E.pat a y/\(∀f∈E.fs a y,f.p w)/\G a
 |_,_,_,_,.nil,o0,cs,ds,h1,h2,h3,h4=>⟨(),(),lQ.1 (by simpa using h1),(λf hf=>by cases hf),trivial⟩
 |_,_,_,_,.cons (f:=f) (fs:=fs) (E1:=E1) (E2:=E2) h hn t,o0,cs,ds,h1,h2,h3,h4=>by
  match ds,h2 with
  |d::ds,h2=>
   simp only[fI,yR,sums,Ai]at h1 h3;obtain⟨ho,h3⟩:=h3;have r0:=h4 0 f d rfl rfl;rw[ho,vU,Er]at r0;obtain⟨a,y,q1,q2,q3⟩:=h w H d _ hz r0;obtain⟨b,z,u1,u2,u3⟩:=Bf.Jl hz t (o0+P.cellsOf f.type) (cs.drop (P.cellsOf f.type)) ds (by rw[uG];omega) (by simpa using h2) h3 (λj g e hg he=>by
    have:=h4 (j+1) g e hg he;rw[List.drop_drop];have hle:o0+P.cellsOf f.type<=g.offset:=by
     have hj:(fs.map (·.offset))[j]? =some g.offset:=by rw[dR,hg];rfl
     rw[h3]at hj;have hs:(fs.map λf=>P.cellsOf f.type)[j]? =some (P.cellsOf g.type):=by rw[dR,hg];rfl
     exact(zu _ ([]:List Value) (o0+P.cellsOf f.type) j _ _ hj hs).2
    rw[show P.cellsOf f.type+(g.offset - (o0+P.cellsOf f.type))=g.offset - o0 by omega];exact this)
   refine⟨(a,b),(y,z),?_,?_,q3,u3⟩
   ·show cs=E1.pat a y++E2.pat b z;rw[<- q1,<- u1,mM]
   ·intro g hg;rcases gH.1 hg with hg|hg
    ·exact q2 g hg
    ·exact u2 g hg
theorem wC{α:Type}{t:TypeId}{fs:Array Field}{E:Enc α}{G:α->Prop}(ht:P.underlying t=some (.struct fs))(ho:fs.toList.map (·.offset)=sums 0 (fs.toList.map λf=>P.cellsOf f.type))
 (hs:P.cellsOf t=(fs.toList.map λf=>P.cellsOf f.type).sum) (h:Bf P fs.toList E G):jd P t E G:=λw H d cs hz r=>by
 obtain⟨ds,_,h1,h2,h3⟩:=r.Un ht;refine h.Jl hz 0 cs ds (by rw[h1,hs]) (by simpa using h2) ho λj f d hf hd=>?_;rw[Ak];exact h3 j f d (by rw[<- wV];exact hf) hd
theorem jd.conv{α β:Type}{t:TypeId}{E:Enc α}{E':Enc β}{G:α->Prop}{G':β->Prop}(h:jd P t E G)(hc:∀a y,G a->∃b z,E.pat a y=E'.pat b z/\E.fs a y=E'.fs b z/\G' b):jd P t E' G':=λw H d cs hz r=>by
 obtain⟨a,y,q1,q2,q3⟩:=h w H d cs hz r;obtain⟨b,z,e1,e2,e3⟩:=hc a y q3;exact⟨b,z,by rw[q1,e1],(λf hf=>q2 f (by rw[e2];exact hf)),e3⟩
section
variable {H:Type}
theorem wB.wD{α:Type}{w:Wd}{t:TypeId}{v:Value}{d:DataW H}{E:Enc α}{G:α->Prop}(h:wB P w t v d)(hz:∀i,i<w.h.next->w.z i)(ha:jD P t=true)(hr:jd P t E G):∃a y,v=.agg ⟨E.pat a y⟩/\(∀f∈E.fs a y,f.p w)/\G a:=by
 obtain⟨cs,r,⟨_,e⟩|⟨e,_⟩⟩:=h
 ·obtain⟨a,y,rfl,q⟩:=hr w H d cs hz r;exact⟨a,y,e,q⟩
 ·rw[ha]at e;cases e
theorem wB.oneG{α:Type}{w:Wd}{t:TypeId}{v:Value}{d:DataW H}{E:Enc α}{G:α->Prop}(h:wB P w t v d)(hz:∀i,i<w.h.next->w.z i)(ha:jD P t=false)(hr:jd P t E G):∃a y,E.pat a y=[v]/\(∀f∈E.fs a y,f.p w)/\G a:=by
 obtain⟨cs,r,⟨e,_⟩|⟨_,e⟩⟩:=h
 ·rw[ha]at e;cases e
 ·obtain⟨a,y,q0,q⟩:=hr w H d cs hz r;exact⟨a,y,by rw[<- q0,e],q⟩
end
end Go.Ideal
namespace Go.Ideal
variable {P:Program}
theorem eP.Js{w:Wd}{A:OA}:∀{kl kl':List OA} {S:List Nat},az A kl kl'->eP w (A::kl') S->∃S',eP w kl S'/\S.Perm S'
 |_,_,S,.here,h=>⟨S,h,.refl _⟩
 |_,_,_,.there (C:=C) (l:=l) (l':=l') s,⟨S1,S2,h1,⟨T1,T2,h2,h3,e2⟩,e⟩=>by
  subst e e2;obtain⟨S',q1,q2⟩:=eP.Js (w:=w) (A:=A) s ⟨S1,T2,h1,h3,rfl⟩;refine⟨T1++S',⟨T1,S',h2,q1,rfl⟩,?_⟩;have:(S1++(T1++T2)).Perm (T1++(S1++T2)):=by
   rw[<- ed,<- ed];exact List.Perm.append_right T2 List.perm_append_comm
  exact this.trans (q2.append_left T1)
theorem az.at{α:Type}{a:α}:∀{l:List α} {k:Nat},l[k]? =some a->az a l (l.eraseIdx k)
 |[],k,h=>by simp at h
 |b::l,0,h=>by
  simp at h;subst h;exact .here
 |b::l,k+1,h=>.there (az.at (l:=l) (k:=k) (by simpa using h))
theorem NW{α:Type}(a:α):∀(l:List α) (k:Nat),(l.set k a).eraseIdx k=l.eraseIdx k
 |[],k=>rfl
 |b::l,0=>rfl
 |b::l,k+1=>by simp[NW a l k]
theorem R.perm{B:List Nat}{w0:Wd}{kl dS:List OA}{F:List aD}{Q:IH->Prop}(hp:∀w S,eP w kl S->∃S',eP w dS S'/\S.Perm S')(h:R Q B w0 dS F):R Q B w0 kl F:=λw s=>by
 obtain⟨S,h1,h2,h3⟩:=s.own;obtain⟨S',q1,q2⟩:=hp w S h1;exact h w ⟨s.agree,s.le,s.fE,⟨S',q1,q2.nodup h2,λi hi=>h3 i (q2.mem_iff.2 hi)⟩,s.facts⟩
abbrev NY(r:Nat):Deferred:={target:=.collected r,args:= #[]}
def Dg(rs:List Nat):OA:=⟨λw S=>eP w (rs.map λr=>pt r (.gT true)) S,λa h hp=>eP.loc a h hp⟩
section
variable {B:List Nat} {w0:Wd} {kl kl' aT k1 k2:List OA} {F:List aD} {K:KO} {n:Nat} {l:List (Nat×Value)} {D:List Deferred} {pm:Option FrameMode} {ro:Option Nat} {Q:IH->Prop}
theorem aez(h:R Q B w0 (Dg []::kl) F):R Q B w0 kl F:=.perm (dS:=Dg []::kl) (λw S hS=>⟨S,⟨[],S,rfl,hS,rfl⟩,.refl _⟩) h
theorem aeA{rs:List Nat}{r:Nat}(hk:az (Dg rs) kl k1:=by exact fB)(hr:az (pt r (.gT true)) k1 k2:=by exact fB)(h:R Q B w0 (Dg (r::rs)::k2) F):R Q B w0 kl F:=
 .perm (λw S hS=>by
  obtain⟨S1,S2,q1,q2,hp⟩:=hS.jy (.cons hk (.cons hr .nil));obtain⟨T1,T2,u1,⟨T3,T4,u2,u3,e3⟩,e⟩:=q1;have u3:T4=[]:=u3;subst u3 e3 e;refine⟨(T3++T1)++S2,⟨T3++T1,S2,⟨T3,T1,u2,u1,rfl⟩,q2,rfl⟩,?_⟩;rw[iK]at hp;exact hp.trans (List.Perm.append_right S2 List.perm_append_comm)) h
theorem jA.ofMap:∀(rs:List Nat) (kl:List OA),jA ((rs.map λr=>pt r (.gT true))++kl) (rs.map NY) kl
 |[],kl=>.nil
 |r::rs,kl=>.cons .here (jA.ofMap rs kl)
theorem aeB{Y:Type}{o:Out}{cf:gU}{vs:List Value}{val:Y->Value}{k1:Y->List OA}{fs:Y->List aD}{pr:Y->Prop}{dS:List OA}{rs:List Nat}(y:Y)(hc:az (Dg rs) kl dS:=by exact fB)
 (hr:RS l dS cf.results vs:=by exact Be) (hv:qP vs=val y) (hp:pr y)
 (hk:aO (k1 y) dS aT:=by exact l6) (hF:Sub (fs y) F:=by exact l5)
 (ho:o=.normal\/o=.ret:=by first|exact .inl rfl|exact .inr rfl):R (λh=>pE P cf (Left B w0 val k1 fs pr) o (act n l (rs.map NY) none ro) h) B w0 kl F:=
 .perm (dS:=(rs.map λr=>pt r (.gT true))++dS) (λw S hS=>by
  obtain⟨S',⟨T1,T2,u1,u2,e⟩,hp⟩:=hS.fA hc;exact⟨S',by rw[e];exact eP.app u1 u2,hp⟩) (UF y (jA.ofMap rs dS) hr hv hp hk hF ho)
def NZ{X:Type}(n:Nat)(D:X->List Deferred)(pm:Option FrameMode)(ro:Option Nat)(B:List Nat)(w0:Wd)(m:X->Nat)(L:X->List (Nat×Value))(KL:X->List OA)(FF:X->List aD)(inv:X->Prop)
 (l0:List (Nat×Value)) (aT:List OA) (F0:List aD):Nat->aV->IH->Prop:=λr a h=>
 ∃(x:X) (w:Wd),r=m x/\a=act n (L x++l0) (D x) pm ro/\w.h=h/\St B w0 (KL x++aT) (FF x++F0) w/\inv x
theorem aeC{X:Type}{c:dm}{l0:List (Nat×Value)}{L2:X->List (Nat×Value)}{zB:X->List OA}{zC:X->List aD}(DX:X->List Deferred)(m:X->Nat)(L:X->List (Nat×Value))(KL:X->List OA)(FF:X->List aD)(inv:X->Prop)(x0:X)(hi:inv x0)
 (hD:DX x0=D:=by rfl)
 (h0:oI l (L x0) l0:=by repeat (first|exact oI.nil|(apply oI.drop;(focus exact rfl))|(apply oI.keep;(focus exact rfl)))) (hl:sub (L x0++l0) l:=by repeat (first|exact trivial|refine⟨rfl,?_⟩))
 (hk:aO (KL x0) kl aT:=by exact l6) (hF:Sub (FF x0) F:=by exact l5)
 (hak:∀x,aX (KL x) aT (zB x):=by intro y;repeat (first|exact aX.nil|apply aX.cons|exact aX.self|exact aX.app)) (zA:∀x,aX (FF x) F (zC x):=by intro y;repeat (first|exact aX.nil|apply aX.cons|exact aX.self|exact aX.app))
 (hal:∀x,aX (L x) l0 (L2 x):=by intro y;repeat (first|exact aX.nil|apply aX.cons|exact aX.self|exact aX.app))
 (body:∀x,inv x->R (λh=>EV P c (act n (L2 x) (DX x) pm ro) h (uV (NZ n DX pm ro B w0 m L KL FF inv l0 aT F) (m x) K)) B w0 (zB x) (zC x)):
 R (λh=>EV P (.loop c) (act n l D pm ro) h K) B w0 kl F:=by
 intro w s;subst hD;refine Nw (Il hl) ?_;refine TT (NZ n DX pm ro B w0 m L KL FF inv l0 aT F) ?_ (m x0) _ _ ⟨x0,w,rfl,rfl,rfl,(s.jy hk).add (λf hf=>s.facts f (hF.mem f hf)),hi⟩;rintro r a h ⟨x,w',rfl,rfl,rfl,s',hx⟩;have:=body x hx;rw[<- (hak x).eq,<- (zA x).eq,<- (hal x).eq]at this;exact this w' s'
theorem N7{X:Type}{DX:X->List Deferred}{m:X->Nat}{L:X->List (Nat×Value)}{KL:X->List OA}{FF:X->List aD}{inv:X->Prop}{l0:List (Nat×Value)}{zD dS:List OA}{F0:List aD}{m0:Nat}(x:X)(hm:m x<m0)(hi:inv x)
 (hD:DX x=D:=by rfl)
 (hl:sub (L x++l0) l:=by repeat (first|exact trivial|refine⟨rfl,?_⟩)) (ha:aX (KL x) aT zD:=by repeat (first|exact aX.nil|apply aX.cons|exact aX.self|exact aX.app))
 (hk:aO zD kl dS:=by exact l6) (hF:Sub (FF x) F:=by exact l5)
 (uW:ko F0 F:=by repeat (first|exact ko.here|apply ko.cons|apply ko.app)):
 R (λh=>uV (NZ n DX pm ro B w0 m L KL FF inv l0 aT F0) m0 K .normal (act n l D pm ro) h) B w0 kl F:=by
 intro w s;subst hD;refine Uc (m x) hm hl ⟨x,w,rfl,rfl,rfl,?_,hi⟩;have s':=(s.jy hk).drop;rw[<- ha.eq]at s';exact⟨s'.agree,s'.le,s'.fE,s'.own,λf hf=>(gH.1 hf).elim (λhf=>s.facts f (hF.mem f hf)) (λhf=>s.facts f (uW.mem f hf))⟩
def vo{α:Type}(E:Enc α)(vs:List Value)(xss:List (List α)):List OA:=(vs.zip xss).map λp=>ap E p.1 p.2
def Jt{α:Type}(E:Enc α)(b:Nat)(xss:List (List α)):OA:=
 ⟨λw S=>∃vs:List Value,vs.length=xss.length/\eP w (pt b (.cells vs)::vo E vs xss) S,λa h ⟨vs,h1,h2⟩=>⟨vs,h1,eP.loc a h h2⟩⟩
def UK{α:Type}(E:Enc α)(vs:List Value)(xss:List (List α))(k:Nat):OA:=
 ⟨λw S=>eP w ((vo E vs xss).eraseIdx k) S,λa h hp=>eP.loc a h hp⟩
theorem aeD{α:Type}(E:Enc α){vs:List Value}{xss:List (List α)}{k:Nat}{v:Value}{xs:List α}(hv:vs[k]? =some v)(hx:xss[k]? =some xs):(vo E vs xss)[k]? =some (ap E v xs):=by
 simp[vo,List.zip,dR,Rv,hv,hx]
theorem aeE{α:Type}(E:Enc α){b:Nat}{xss:List (List α)}{k:Nat}{xs:List α}(hx:xss[k]? =some xs)(hk:az (Jt E b xss) kl kl':=by exact fB)
 (h:∀(vs:List Value) (v:Value),vs.length=xss.length->vs[k]? =some v->R Q B w0 (pt b (.cells vs)::ap E v xs::UK E vs xss k::kl') F):R Q B w0 kl F:=λw s=>by
 obtain⟨S,⟨S1,S2,⟨vs,h1,h2⟩,q2,e⟩,hnd,hall⟩:=(s.fA hk).own;subst e;have hlt:=(aW.1 hx).1;have hv:vs[k]? =some (vs[k]'(by omega)):=bC (by omega);refine h vs _ h1 hv w ?_;have hg:(vo E vs xss)[k]? =some (ap E (vs[k]'(by omega)) xs):=aeD E hv hx;obtain⟨T1,T2,u1,u2,e⟩:=h2;obtain⟨T3,⟨T4,T5,u4,u5,e5⟩,u6⟩:=u2.fA (az.at hg);subst e5 e;have hperm:((T1++T2)++S2).Perm (T1++(T4++(T5++S2))):=by
  rw[ed];refine List.Perm.append_left T1 ?_;rw[<- ed];exact List.Perm.append_right S2 u6
 exact⟨s.agree,s.le,s.fE,⟨T1++(T4++(T5++S2)),⟨T1,_,u1,⟨T4,_,u4,⟨T5,S2,u5,q2,rfl⟩,rfl⟩,rfl⟩,hperm.nodup hnd,λi hi=>hall i (hperm.mem_iff.2 hi)⟩,s.facts⟩
theorem aeF{α:Type}(E:Enc α){vs:List Value}{xss:List (List α)}{k:Nat}{v:Value}{xs:List α}:vo E (vs.set k v) (xss.set k xs)=(vo E vs xss).set k (ap E v xs):=by
 apply iF;intro j;simp only[vo,dR,mV,List.zip,Rv];by_cases e:k=j
 ·subst e;by_cases h1:k<vs.length
  ·by_cases h2:k<xss.length
   ·simp[h1,h2];omega
   ·simp[h1,h2];omega
  ·simp[h1];omega
 ·simp[e]
theorem aeG{α:Type}(E:Enc α){b:Nat}{xss:List (List α)}{vs:List Value}{k:Nat}{v:Value}{xs:List α}(hlen:vs.length=xss.length)(hk:k<xss.length)(h1:az (pt b (.cells (vs.set k v))) kl k1:=by exact fB)
 (h2:az (ap E v xs) k1 k2:=by exact fB) (h3:az (UK E vs xss k) k2 aT:=by exact fB) (h:R Q B w0 (Jt E b (xss.set k xs)::aT) F):R Q B w0 kl F:=
 .perm (λw S hS=>by
  obtain⟨S1,S2,q1,q2,hp⟩:=hS.jy (.cons h1 (.cons h2 (.cons h3 .nil)));obtain⟨T1,U1,u1,⟨T2,U2,u2,⟨T3,U3,u3,u4,e3⟩,e2⟩,e1⟩:=q1;have u4:U3=[]:=u4;subst u4 e3 e2 e1;have hl:((vo E vs xss).set k (ap E v xs))[k]? =some (ap E v xs):=by
   rw[mV,if_pos rfl,if_pos (by simp[vo];omega)]
  obtain⟨V,v1,v2⟩:=eP.Js (az.at hl) (S:=T2++T3) (w:=w) ⟨T2,T3,u2,by rw[NW];exact u3,rfl⟩;refine⟨(T1++V)++S2,⟨T1++V,S2,⟨vs.set k v,by simp[hlen],⟨T1,V,u1,by rw[aeF];exact v1,rfl⟩⟩,q2,rfl⟩,hp.trans ?_⟩;rw[iK];exact List.Perm.append_right S2 (List.Perm.append_left T1 v2)) h
theorem aeH{α:Type}(E:Enc α){b m:Nat}(hk:az (pt b (.cells (List.replicate m (.slice none 0 0)))) kl kl':=by exact fB)(h:R Q B w0 (Jt E b (List.replicate m ([]:List α))::kl') F):R Q B w0 kl F:=
 .perm (λw S hS=>by
  obtain⟨S',⟨T1,T2,u1,u2,e⟩,hp⟩:=hS.fA hk;refine⟨S',⟨T1,T2,⟨List.replicate m (.slice none 0 0),by simp,⟨T1,[],u1,?_,by simp⟩⟩,u2,e⟩,hp⟩;have:∀m,eP w (vo E (List.replicate m (.slice none 0 0)) (List.replicate m [])) []:=by
   intro m;induction m with
   |zero=>rfl
   |succ m ih=>exact⟨[],[],.inl ⟨rfl,rfl,rfl⟩,ih,rfl⟩
  exact this m) h
end
end Go.Ideal
namespace Go.Ideal
end Go.Ideal
namespace Go.Ideal
variable {P:Program}
def N8{X:Type}(n:Nat)(D:List Deferred)(pm:Option FrameMode)(ro:Option Nat)(B:List Nat)(w0:Wd)(L:X->List (Nat×Value))(KL:X->List OA)(FF:X->List aD)(inv:X->Prop)(l0:List (Nat×Value))(aT:List OA)(F0:List aD)(K:KO):KO:=λo a h=>
 match o with
 | .normal=>∃(x:X) (l:List (Nat×Value)) (w:Wd),a=act n l D pm ro/\sub (L x++l0) l/\w.h=h/\St B w0 (KL x++aT) (FF x++F0) w/\inv x
 |o=>K o a h
section
variable {B:List Nat} {w0:Wd} {kl kl' aT k1 k2:List OA} {F:List aD} {K:KO} {n:Nat} {l:List (Nat×Value)} {D:List Deferred} {pm:Option FrameMode} {ro:Option Nat} {Q:IH->Prop}
section
variable {X:Type} {n2:Nat} {D2:List Deferred} {pm2:Option FrameMode} {ro2:Option Nat} {B2:List Nat} {w2:Wd} {L:X->List (Nat×Value)} {KL:X->List OA} {FF:X->List aD} {inv:X->Prop} {l0:List (Nat×Value)} {F0:List aD}
theorem aeK{a:aV}{ch:List PanicEntry}(h:R (λh=>K (.panic ch) a h) B w0 kl F):R (λh=>N8 n2 D2 pm2 ro2 B2 w2 L KL FF inv l0 aT F0 K (.panic ch) a h) B w0 kl F:=h
theorem Ju{zD dS:List OA}(x:X)(hi:inv x)(hl:sub (L x++l0) l:=by repeat (first|exact trivial|refine⟨rfl,?_⟩))
 (ha:aX (KL x) aT zD:=by repeat (first|exact aX.nil|apply aX.cons|exact aX.self|exact aX.app))
 (hk:aO zD kl dS:=by exact l6) (hF:Sub (FF x) F:=by exact l5)
 (uW:ko F0 F:=by repeat (first|exact ko.here|apply ko.cons|apply ko.app)):
 R (λh=>N8 n D pm ro B w0 L KL FF inv l0 aT F0 K .normal (act n l D pm ro) h) B w0 kl F:=λw s=>by
 refine⟨x,l,w,rfl,hl,rfl,?_,hi⟩;have s':=(s.jy hk).drop;rw[<- ha.eq]at s';exact⟨s'.agree,s'.le,s'.fE,s'.own,λf hf=>(gH.1 hf).elim (λhf=>s.facts f (hF.mem f hf)) (λhf=>s.facts f (uW.mem f hf))⟩
end
theorem UL{X:Type}{x y:dm}{l0:List (Nat×Value)}{L2:X->List (Nat×Value)}{zB:X->List OA}{zC:X->List aD}(ks:List Nat)(L:X->List (Nat×Value))(KL:X->List OA)(FF:X->List aD)(inv:X->Prop)
 (hx:R (λh=>EV P x (act n l D pm ro) h (N8 n D pm ro B w0 L KL FF inv l0 aT F K)) B w0 kl F)
 (hy:∀z,inv z->R (λh=>EV P y (act n (L2 z) D pm ro) h K) B w0 (zB z) (zC z))
 (h0:oI l (ks.map λk=>(k,sU)) l0:=by repeat (first|exact oI.nil|(apply oI.drop;(focus exact rfl))|(apply oI.keep;(focus exact rfl))))
 (hal:∀x,aX (L x) l0 (L2 x):=by intro y;repeat (first|exact aX.nil|apply aX.cons|exact aX.self|exact aX.app))
 (hak:∀x,aX (KL x) aT (zB x):=by intro y;repeat (first|exact aX.nil|apply aX.cons|exact aX.self|exact aX.app)) (zA:∀x,aX (FF x) F (zC x):=by intro y;repeat (first|exact aX.nil|apply aX.cons|exact aX.self|exact aX.app)):
 R (λh=>EV P x (act n l D pm ro) h (zo P y K)) B w0 kl F:=λw s=>by
 refine Ii (hx w s) _ ?_;intro o a h hm;cases o with
 |normal=>
  obtain⟨z,l',w',rfl,hl,rfl,s',hz⟩:=hm;have:=hy z hz;rw[<- (hak z).eq,<- (zA z).eq,<- (hal z).eq]at this;exact Nw (Il hl) (this w' s')
 |exit j=>exact hm
 |ret=>exact hm
 |panic ch=>exact hm
end
end Go.Ideal
namespace Go.Ideal
variable {P:Program}
theorem UM{n k:Nat}(h:k<=n):upTo n (.int .i64 (k:Int))=some k:=by
 show cond (Nat.ble k n) (some k) none=_;rw[show Nat.ble k n=true from by rw[sP];exact h];rfl
section
variable {B:List Nat} {w0:Wd} {kl kl' aT k1 k2:List OA} {F:List aD} {K:KO} {n:Nat} {l:List (Nat×Value)} {D:List Deferred} {pm:Option FrameMode} {ro:Option Nat} {Q:IH->Prop} {ds:List Tmp} {rest:List bP} {d:Nat} {g:Option (Tmp×Bool)}
end
