/-
  The ideal machine, 61: plain data as things, with bounds.
-/
import Derived.Test.YtoohgkkmdnbnfaaGreatDoorIdealLE
set_option linter.all false
namespace Go.Ideal
open Go.ChangeShapes Go.WideShapes Go.ChangeAt Go.RowKit
variable {P:Program}
def gN{α:Type}(P:Program)(t:TypeId)(E:Enc α)(G:α->Prop):Prop:=∀(w:Wd) (H:Type) (d:DataW H) (cs:List Value),(∀i,i<w.h.next->w.z i)->fV P w.h t cs d->∃a y,cs=E.pat a y/\(∀f∈E.fs a y,f.p w)/\G a
def jK(n:Int):Prop:= -9223372036854775808<=n/\n<9223372036854775808
def mF{α:Type}(G:α->Prop)(xs:List α):Prop:=xs.length<9223372036854775808/\∀x∈xs,G x
theorem YG{t:TypeId}(ht:P.underlying t=some (.int .i64)):gN P t ae jK:=λw H d cs hz r=>by
 obtain⟨n,rfl,_,h⟩:=r.kC ht;refine⟨n,(),rfl,(λf hf=>by cases hf),?_⟩;simp only[Lit.wf,IntKind.min,IntKind.max,IntKind.signed,IntKind.bits,fB,Bo]at h;simp at h;exact⟨by omega,by omega⟩
theorem YH{t:TypeId}(ht:P.underlying t=some .string):gN P t bV (λ_=>True):=λw H d cs hz r=>by
 obtain⟨n,rfl,_⟩:=r.vw ht;exact⟨n,(),rfl,(λf hf=>by cases hf),trivial⟩
theorem sw{α:Type}{t e:TypeId}{E:Enc α}{G:α->Prop}(ht:P.underlying t=some (.slice e))(hn:P.cellsOf e=E.n)(he:gN P e E G):gN P t (aC E) (mF G):=λw H d cs hz r=>by
 rcases r.kP ht with⟨rfl,_⟩|⟨i,n,c,cells,els,rest,rfl,_,hnc,hl,hcl,hel⟩
 ·exact⟨[],_,rfl,(λf hf=>by rw[bC.1 hf];exact .inl ⟨rfl,none,0,rfl,trivial⟩),by simp,λx hx=>by cases hx⟩
 ·have hmax:maxLen=9223372036854775807:=by decide
  obtain⟨xs,hx1,hx2⟩:=Jj (p:=λk a=>(∃y,(cells.drop (k*E.n)).take E.n=E.pat a y/\∀f∈E.fs a y,f.p w)/\G a) n (λk hk=>by
   have hk':k<els.length:=by omega
   have:=hel k els[k] (dz hk');rw[hn]at this;obtain⟨a,y,q1,q2,q3⟩:=he w H _ _ hz this;exact⟨a,⟨y,q1,q2⟩,q3⟩)
  refine⟨xs,_,rfl,λf hf=>?_,by omega,λx hx=>?_⟩
  ·rw[bC.1 hf];rcases hcl with h0|hcl
   ·left;have:xs=[]:=kW.1 (by omega);exact⟨this,some ⟨i,0,some 0⟩,c,by rw[h0],Or.inl rfl⟩
   ·right;refine⟨i,0,0,c,cells,⟨by rw[hx1],by rw[hx1];exact hnc.1,.inl rfl⟩,⟨hz i hcl.1,hcl.2⟩,λk x hk=>?_⟩;obtain⟨⟨y,q1,q2⟩,_⟩:=hx2 k x hk;refine⟨y,λj u hj=>?_,q2⟩;rw[<- q1,sS]at hj;split at hj
    ·rw[oq]at hj;rw[eG];exact hj
    ·cases hj
  ·obtain⟨k,hk⟩:=ku hx;exact(hx2 k x hk).2
inductive xW(P:Program):{α:Type}->List Field->Enc α->(α->Prop)->Prop
 |nil:xW P [] PD (λ_=>True)
 |cons {α β:Type} {f:Field} {fs:List Field} {E1:Enc α} {E2:Enc β} {G1:α->Prop} {G2:β->Prop} (h:gN P f.type E1 G1) (hn:P.cellsOf f.type=E1.n) (t:xW P fs E2 G2):xW P (f::fs) (Pz E1 E2) (λx=>G1 x.1/\G2 x.2)
theorem xW.EQ{w:Wd}{H:Type}(hz:∀i,i<w.h.next->w.z i):∀{α:Type} {fs:List Field} {E:Enc α} {G:α->Prop},xW P fs E G->∀(o0:Nat) (cs:List Value) (ds:List (DataW H)),cs.length=(fs.map λf=>P.cellsOf f.type).sum->ds.length=fs.length->
 fs.map (·.offset)=sums o0 (fs.map λf=>P.cellsOf f.type)->(∀(j:Nat) f d,fs[j]? =some f->ds[j]? =some d->fV P w.h f.type ((cs.drop (f.offset - o0)).take (P.cellsOf f.type)) d)->∃a y,cs=E.pat a y/\(∀f∈E.fs a y,f.p w)/\G a
 |_,_,_,_,.nil,o0,cs,ds,h1,h2,h3,h4=>⟨(),(),kW.1 (by simpa using h1),(λf hf=>by cases hf),trivial⟩
 |_,_,_,_,.cons (f:=f) (fs:=fs) (E1:=E1) (E2:=E2) h hn t,o0,cs,ds,h1,h2,h3,h4=>by
  match ds,h2 with
  |d::ds,h2=>
   simp only[fG,List.sum_cons,sums,yP]at h1 h3;obtain⟨ho,h3⟩:=h3;have r0:=h4 0 f d rfl rfl;rw[ho,yS,wQ]at r0;obtain⟨a,y,q1,q2,q3⟩:=h w H d _ hz r0;obtain⟨b,z,u1,u2,u3⟩:=xW.EQ hz t (o0+P.cellsOf f.type) (cs.drop (P.cellsOf f.type)) ds (by rw[qC];omega) (by simpa using h2) h3 (λj g e hg he=>by
    have:=h4 (j+1) g e hg he;rw[List.drop_drop];have hle:o0+P.cellsOf f.type<=g.offset:=by
     have hj:(fs.map (·.offset))[j]? =some g.offset:=by rw[eX,hg];rfl
     rw[h3]at hj;have hs:(fs.map λf=>P.cellsOf f.type)[j]? =some (P.cellsOf g.type):=by rw[eX,hg];rfl
     exact(vJ _ ([]:List Value) (o0+P.cellsOf f.type) j _ _ hj hs).2
    rw[show P.cellsOf f.type+(g.offset - (o0+P.cellsOf f.type))=g.offset - o0 by omega];exact this)
   refine⟨(a,b),(y,z),?_,?_,q3,u3⟩
   ·show cs=E1.pat a y++E2.pat b z;rw[<- q1,<- u1,rH]
   ·intro g hg;rcases eZ.1 hg with hg|hg
    ·exact q2 g hg
    ·exact u2 g hg
theorem qW{α:Type}{t:TypeId}{fs:Array Field}{E:Enc α}{G:α->Prop}(ht:P.underlying t=some (.struct fs))(ho:fs.toList.map (·.offset)=sums 0 (fs.toList.map λf=>P.cellsOf f.type))
 (hs:P.cellsOf t=(fs.toList.map λf=>P.cellsOf f.type).sum) (h:xW P fs.toList E G):gN P t E G:=λw H d cs hz r=>by
 obtain⟨ds,_,h1,h2,h3⟩:=r.OC ht;refine h.EQ hz 0 cs ds (by rw[h1,hs]) (by simpa using h2) ho λj f d hf hd=>?_;rw[Bq];exact h3 j f d (by rw[<- wN];exact hf) hd
theorem gN.conv{α β:Type}{t:TypeId}{E:Enc α}{E':Enc β}{G:α->Prop}{G':β->Prop}(h:gN P t E G)(hc:∀a y,G a->∃b z,E.pat a y=E'.pat b z/\E.fs a y=E'.fs b z/\G' b):gN P t E' G':=λw H d cs hz r=>by
 obtain⟨a,y,q1,q2,q3⟩:=h w H d cs hz r;obtain⟨b,z,e1,e2,e3⟩:=hc a y q3;exact⟨b,z,by rw[q1,e1],(λf hf=>q2 f (by rw[e2];exact hf)),e3⟩
section
variable {H:Type}
theorem vU.Jl{α:Type}{w:Wd}{t:TypeId}{v:Value}{d:DataW H}{E:Enc α}{G:α->Prop}(h:vU P w t v d)(hz:∀i,i<w.h.next->w.z i)(ha:iR P t=true)(hr:gN P t E G):∃a y,v=.agg ⟨E.pat a y⟩/\(∀f∈E.fs a y,f.p w)/\G a:=by
 obtain⟨cs,r,⟨_,e⟩|⟨e,_⟩⟩:=h
 ·obtain⟨a,y,rfl,q⟩:=hr w H d cs hz r;exact⟨a,y,e,q⟩
 ·rw[ha]at e;cases e
end
end Go.Ideal
namespace Go.Ideal
variable {P:Program}
theorem dK.Jm{w:Wd}{A:OA}:∀{kl kl':List OA} {S:List Nat},aj A kl kl'->dK w (A::kl') S->∃S',dK w kl S'/\S.Perm S'
 |_,_,S,.here,h=>⟨S,h,.refl _⟩
 |_,_,_,.there (C:=C) (l:=l) (l':=l') s,⟨S1,S2,h1,⟨T1,T2,h2,h3,e2⟩,e⟩=>by
  subst e e2;obtain⟨S',q1,q2⟩:=dK.Jm (w:=w) (A:=A) s ⟨S1,T2,h1,h3,rfl⟩;refine⟨T1++S',⟨T1,S',h2,q1,rfl⟩,?_⟩;have:(S1++(T1++T2)).Perm (T1++(S1++T2)):=by
   rw[<- dQ,<- dQ];exact List.Perm.append_right T2 List.perm_append_comm
  exact this.trans (q2.append_left T1)
theorem aj.at{α:Type}{a:α}:∀{l:List α} {k:Nat},l[k]? =some a->aj a l (l.eraseIdx k)
 |[],k,h=>by simp at h
 |b::l,0,h=>by
  simp at h;subst h;exact .here
 |b::l,k+1,h=>.there (aj.at (l:=l) (k:=k) (by simpa using h))
theorem PN{α:Type}(a:α):∀(l:List α) (k:Nat),(l.set k a).eraseIdx k=l.eraseIdx k
 |[],k=>rfl
 |b::l,0=>rfl
 |b::l,k+1=>by simp[PN a l k]
theorem R.perm{B:List Nat}{w0:Wd}{kl bX:List OA}{F:List aB}{Q:IH->Prop}(hp:∀w S,dK w kl S->∃S',dK w bX S'/\S.Perm S')(h:R Q B w0 bX F):R Q B w0 kl F:=λw s=>by
 obtain⟨S,h1,h2,h3⟩:=s.own;obtain⟨S',q1,q2⟩:=hp w S h1;exact h w ⟨s.agree,s.le,s.dR,⟨S',q1,q2.nodup h2,λi hi=>h3 i (q2.mem_iff.2 hi)⟩,s.facts⟩
abbrev Jn(r:Nat):Deferred:={target:=.collected r,args:= #[]}
def Am(rs:List Nat):OA:=⟨λw S=>dK w (rs.map λr=>pt r (.fU true)) S,λa h hp=>dK.loc a h hp⟩
section
variable {B:List Nat} {w0:Wd} {kl kl' aR k1 k2:List OA} {F:List aB} {K:KO} {n:Nat} {l:List (Nat×Value)} {D:List Deferred} {pm:Option FrameMode} {ro:Option Nat} {Q:IH->Prop}
theorem YI(h:R Q B w0 (Am []::kl) F):R Q B w0 kl F:=.perm (bX:=Am []::kl) (λw S hS=>⟨S,⟨[],S,rfl,hS,rfl⟩,.refl _⟩) h
theorem PO{rs:List Nat}{r:Nat}(hk:aj (Am rs) kl k1:=by exact fE)(hr:aj (pt r (.fU true)) k1 k2:=by exact fE)(h:R Q B w0 (Am (r::rs)::k2) F):R Q B w0 kl F:=
 .perm (λw S hS=>by
  obtain⟨S1,S2,q1,q2,hp⟩:=hS.iC (.cons hk (.cons hr .nil));obtain⟨T1,T2,u1,⟨T3,T4,u2,u3,e3⟩,e⟩:=q1;have u3:T4=[]:=u3;subst u3 e3 e;refine⟨(T3++T1)++S2,⟨T3++T1,S2,⟨T3,T1,u2,u1,rfl⟩,q2,rfl⟩,?_⟩;rw[iX]at hp;exact hp.trans (List.Perm.append_right S2 List.perm_append_comm)) h
theorem iw.ofMap:∀(rs:List Nat) (kl:List OA),iw ((rs.map λr=>pt r (.fU true))++kl) (rs.map Jn) kl
 |[],kl=>.nil
 |r::rs,kl=>.cons .here (iw.ofMap rs kl)
theorem PP{Y:Type}{o:Out}{cf:fI}{vs:List Value}{val:Y->Value}{k1:Y->List OA}{fs:Y->List aB}{pr:Y->Prop}{bX:List OA}{rs:List Nat}(y:Y)(hc:aj (Am rs) kl bX:=by exact fE)
 (hr:RS l bX cf.results vs:=by exact xS) (hv:oM vs=val y) (hp:pr y)
 (hk:aM (k1 y) bX aR:=by exact kG) (hF:Sub (fs y) F:=by exact jV)
 (ho:o=.normal\/o=.ret:=by first|exact .inl rfl|exact .inr rfl):R (λh=>nR P cf (Left B w0 val k1 fs pr) o (act n l (rs.map Jn) none ro) h) B w0 kl F:=
 .perm (bX:=(rs.map λr=>pt r (.fU true))++bX) (λw S hS=>by
  obtain⟨S',⟨T1,T2,u1,u2,e⟩,hp⟩:=hS.fC hc;exact⟨S',by rw[e];exact dK.app u1 u2,hp⟩) (PI y (iw.ofMap rs bX) hr hv hp hk hF ho)
def Jo{X:Type}(n:Nat)(D:X->List Deferred)(pm:Option FrameMode)(ro:Option Nat)(B:List Nat)(w0:Wd)(m:X->Nat)(L:X->List (Nat×Value))(KL:X->List OA)(FF:X->List aB)(inv:X->Prop)
 (l0:List (Nat×Value)) (aR:List OA) (F0:List aB):Nat->aI->IH->Prop:=λr a h=>
 ∃(x:X) (w:Wd),r=m x/\a=act n (L x++l0) (D x) pm ro/\w.h=h/\St B w0 (KL x++aR) (FF x++F0) w/\inv x
theorem YJ{X:Type}{c:bK}{l0:List (Nat×Value)}{L2:X->List (Nat×Value)}{vR:X->List OA}{vS:X->List aB}(DX:X->List Deferred)(m:X->Nat)(L:X->List (Nat×Value))(KL:X->List OA)(FF:X->List aB)(inv:X->Prop)(x0:X)(hi:inv x0)
 (hD:DX x0=D:=by rfl)
 (h0:lU l (L x0) l0:=by repeat (first|exact lU.nil|(apply lU.drop;(focus exact rfl))|(apply lU.keep;(focus exact rfl)))) (hl:sub (L x0++l0) l:=by repeat (first|exact trivial|refine⟨rfl,?_⟩))
 (hk:aM (KL x0) kl aR:=by exact kG) (hF:Sub (FF x0) F:=by exact jV)
 (hak:∀x,aT (KL x) aR (vR x):=by intro y;repeat (first|exact aT.nil|apply aT.cons|exact aT.self|exact aT.app)) (vQ:∀x,aT (FF x) F (vS x):=by intro y;repeat (first|exact aT.nil|apply aT.cons|exact aT.self|exact aT.app))
 (hal:∀x,aT (L x) l0 (L2 x):=by intro y;repeat (first|exact aT.nil|apply aT.cons|exact aT.self|exact aT.app))
 (body:∀x,inv x->R (λh=>EV P c (act n (L2 x) (DX x) pm ro) h (qR (Jo n DX pm ro B w0 m L KL FF inv l0 aR F) (m x) K)) B w0 (vR x) (vS x)):
 R (λh=>EV P (.loop c) (act n l D pm ro) h K) B w0 kl F:=by
 intro w s;subst hD;refine IR (ED hl) ?_;refine N7 (Jo n DX pm ro B w0 m L KL FF inv l0 aR F) ?_ (m x0) _ _ ⟨x0,w,rfl,rfl,rfl,(s.iC hk).add (λf hf=>s.facts f (hF.mem f hf)),hi⟩;rintro r a h ⟨x,w',rfl,rfl,rfl,s',hx⟩;have:=body x hx;rw[<- (hak x).eq,<- (vQ x).eq,<- (hal x).eq]at this;exact this w' s'
theorem PR{X:Type}{DX:X->List Deferred}{m:X->Nat}{L:X->List (Nat×Value)}{KL:X->List OA}{FF:X->List aB}{inv:X->Prop}{l0:List (Nat×Value)}{vT bX:List OA}{F0:List aB}{m0:Nat}(x:X)(hm:m x<m0)(hi:inv x)
 (hD:DX x=D:=by rfl)
 (hl:sub (L x++l0) l:=by repeat (first|exact trivial|refine⟨rfl,?_⟩)) (ha:aT (KL x) aR vT:=by repeat (first|exact aT.nil|apply aT.cons|exact aT.self|exact aT.app))
 (hk:aM vT kl bX:=by exact kG) (hF:Sub (FF x) F:=by exact jV)
 (ul:ja F0 F:=by repeat (first|exact ja.here|apply ja.cons|apply ja.app)):
 R (λh=>qR (Jo n DX pm ro B w0 m L KL FF inv l0 aR F0) m0 K .normal (act n l D pm ro) h) B w0 kl F:=by
 intro w s;subst hD;refine Oi (m x) hm hl ⟨x,w,rfl,rfl,rfl,?_,hi⟩;have s':=(s.iC hk).drop;rw[<- ha.eq]at s';exact⟨s'.agree,s'.le,s'.dR,s'.own,λf hf=>(eZ.1 hf).elim (λhf=>s.facts f (hF.mem f hf)) (λhf=>s.facts f (ul.mem f hf))⟩
end
end Go.Ideal
namespace Go.Ideal
noncomputable def Ao:Nat->T bQ->T bQ->Bool
 |0,_,_=>false
 |n+1,a,b=>match a,b with
  | .leaf,.leaf=>true
  | .node v l r,.node v' l' r'=>(match v,v' with
    |none,none=>true
    |some o,some o'=>EF o o'
    |_,_=>false)&&(Ao n l l'&&Ao n r r')
  |_,_=>false
theorem Jp:∀(n:Nat) {a b:T bQ},Ao n a b=true->a=b
 |0,_,_,h=>by cases h
 |n+1,a,b,h=>by
  unfold Ao at h;split at h
  ·rfl
  ·simp only[fB]at h;obtain⟨h1,h2,h3⟩:=h;rw[Jp n h2,Jp n h3];split at h1
   ·rfl
   ·rw[N9 h1]
   ·cases h1
  ·cases h
end Go.Ideal
namespace Go.Ideal
variable {P:Program}
def ET{X:Type}(n:Nat)(D:List Deferred)(pm:Option FrameMode)(ro:Option Nat)(B:List Nat)(w0:Wd)(L:X->List (Nat×Value))(KL:X->List OA)(FF:X->List aB)(inv:X->Prop)(l0:List (Nat×Value))(aR:List OA)(F0:List aB)(K:KO):KO:=λo a h=>
 match o with
 | .normal=>∃(x:X) (l:List (Nat×Value)) (w:Wd),a=act n l D pm ro/\sub (L x++l0) l/\w.h=h/\St B w0 (KL x++aR) (FF x++F0) w/\inv x
 |o=>K o a h
section
variable {B:List Nat} {w0:Wd} {kl kl' aR k1 k2:List OA} {F:List aB} {K:KO} {n:Nat} {l:List (Nat×Value)} {D:List Deferred} {pm:Option FrameMode} {ro:Option Nat} {Q:IH->Prop}
section
variable {X:Type} {n2:Nat} {D2:List Deferred} {PS:Option FrameMode} {PT:Option Nat} {B2:List Nat} {w2:Wd} {L:X->List (Nat×Value)} {KL:X->List OA} {FF:X->List aB} {inv:X->Prop} {l0:List (Nat×Value)} {F0:List aB}
theorem CJ{a:aI}(h:R (λh=>K .ret a h) B w0 kl F):R (λh=>ET n2 D2 PS PT B2 w2 L KL FF inv l0 aR F0 K .ret a h) B w0 kl F:=h
theorem YK{a:aI}{ch:List PanicEntry}(h:R (λh=>K (.panic ch) a h) B w0 kl F):R (λh=>ET n2 D2 PS PT B2 w2 L KL FF inv l0 aR F0 K (.panic ch) a h) B w0 kl F:=h
theorem oN{vT bX:List OA}(x:X)(hi:inv x)(hl:sub (L x++l0) l:=by repeat (first|exact trivial|refine⟨rfl,?_⟩))
 (ha:aT (KL x) aR vT:=by repeat (first|exact aT.nil|apply aT.cons|exact aT.self|exact aT.app))
 (hk:aM vT kl bX:=by exact kG) (hF:Sub (FF x) F:=by exact jV)
 (ul:ja F0 F:=by repeat (first|exact ja.here|apply ja.cons|apply ja.app)):
 R (λh=>ET n D pm ro B w0 L KL FF inv l0 aR F0 K .normal (act n l D pm ro) h) B w0 kl F:=λw s=>by
 refine⟨x,l,w,rfl,hl,rfl,?_,hi⟩;have s':=(s.iC hk).drop;rw[<- ha.eq]at s';exact⟨s'.agree,s'.le,s'.dR,s'.own,λf hf=>(eZ.1 hf).elim (λhf=>s.facts f (hF.mem f hf)) (λhf=>s.facts f (ul.mem f hf))⟩
end
theorem Jq{X:Type}{x y:bK}{l0:List (Nat×Value)}{L2:X->List (Nat×Value)}{vR:X->List OA}{vS:X->List aB}(ks:List Nat)(L:X->List (Nat×Value))(KL:X->List OA)(FF:X->List aB)(inv:X->Prop)
 (hx:R (λh=>EV P x (act n l D pm ro) h (ET n D pm ro B w0 L KL FF inv l0 aR F K)) B w0 kl F)
 (hy:∀z,inv z->R (λh=>EV P y (act n (L2 z) D pm ro) h K) B w0 (vR z) (vS z))
 (h0:lU l (ks.map λk=>(k,pF)) l0:=by repeat (first|exact lU.nil|(apply lU.drop;(focus exact rfl))|(apply lU.keep;(focus exact rfl))))
 (hal:∀x,aT (L x) l0 (L2 x):=by intro y;repeat (first|exact aT.nil|apply aT.cons|exact aT.self|exact aT.app))
 (hak:∀x,aT (KL x) aR (vR x):=by intro y;repeat (first|exact aT.nil|apply aT.cons|exact aT.self|exact aT.app)) (vQ:∀x,aT (FF x) F (vS x):=by intro y;repeat (first|exact aT.nil|apply aT.cons|exact aT.self|exact aT.app)):
 R (λh=>EV P x (act n l D pm ro) h (vH P y K)) B w0 kl F:=λw s=>by
 refine IL (hx w s) _ ?_;intro o a h hm;cases o with
 |normal=>
  obtain⟨z,l',w',rfl,hl,rfl,s',hz⟩:=hm;have:=hy z hz;rw[<- (hak z).eq,<- (vQ z).eq,<- (hal z).eq]at this;exact IR (ED hl) (this w' s')
 |exit j=>exact hm
 |ret=>exact hm
 |panic ch=>exact hm
end
theorem YL{G G':Prop}(x:G')(r:bN G G':=by
 repeat (first
  |((with_reducible apply bN.trans);first
   |with_reducible exact OE
   |with_reducible exact OG
   |with_reducible exact OH
   |with_reducible exact OI
   |with_reducible exact OJ
   |with_reducible exact OL
   |with_reducible exact OM
   |with_reducible exact OO
   |with_reducible exact OP
   |with_reducible exact OQ
   |with_reducible exact OT
   |with_reducible exact OU
   |with_reducible exact OV
   |with_reducible exact OW
   |with_reducible exact OZ
   |with_reducible exact O0
   |with_reducible exact O1
   |((with_reducible apply OX);exact rfl)
   |((with_reducible apply OY);exact rfl)
   |((with_reducible apply O3);(focus exact rfl))
   |((with_reducible apply O4);(focus exact rfl))
   |((with_reducible apply O5);(focus exact rfl);(focus exact rfl))
   |((with_reducible apply Pq);(focus exact rfl);(focus exact rfl);(focus ((conv=>lhs;whnf);(first|done|fail)));(focus exact rfl);(focus (((repeat (first|with_reducible exact bF .. |with_reducible apply bB));first|done|fail);(first|done|fail)));(focus ((omega);(first|done|fail))))
   |((with_reducible apply Ps);(focus exact rfl);(focus exact rfl);(focus ((conv=>lhs;whnf);(first|done|fail)));(focus exact rfl);(focus (((repeat (first|with_reducible exact bF .. |with_reducible apply bB));first|done|fail);(first|done|fail)));(focus ((omega);(first|done|fail))))
   |((with_reducible apply Jg);(focus exact rfl);(focus exact rfl);(focus ((conv=>lhs;whnf);(first|done|fail)));(focus exact rfl);(focus (((repeat (first|with_reducible exact bF .. |with_reducible apply bB));first|done|fail);(first|done|fail)));(focus ((omega);(first|done|fail)));(focus ((omega);(first|done|fail))))
   |((with_reducible apply Jh);(focus exact rfl);(focus exact rfl);(focus ((conv=>lhs;whnf);(first|done|fail)));(focus exact rfl);(focus (((repeat (first|with_reducible exact bF .. |with_reducible apply bB));first|done|fail);(first|done|fail)));(focus ((omega);(first|done|fail)));(focus ((omega);(first|done|fail))))
   |((with_reducible apply fP);(focus exact rfl);(focus exact rfl);(focus ((first|((with_reducible apply zB);(focus ((conv=>lhs;whnf);(first|done|fail))))|((with_reducible apply zC);(focus ((conv=>lhs;whnf);(first|done|fail))))|((with_reducible apply zH);(focus exact rfl))|((with_reducible apply zJ);(focus exact rfl);(focus exact rfl))|((with_reducible apply zK);(focus exact rfl);(focus exact rfl))|((with_reducible apply zM);(focus exact rfl);(focus exact rfl))|((with_reducible apply zN);(focus exact rfl);(focus exact rfl))|((with_reducible apply zO);(focus exact rfl);(focus exact rfl))|((with_reducible apply zP);(focus exact rfl);(focus exact rfl))|((with_reducible apply zG);(focus exact rfl))|((with_reducible apply zD);(focus exact rfl);(focus ((conv=>lhs;whnf);(first|done|fail))))|((with_reducible apply zF);(focus exact rfl);(focus ((conv=>lhs;whnf);(first|done|fail))))|((with_reducible apply zR);(focus exact rfl);(focus ((conv=>lhs;whnf);(first|done|fail))))|((with_reducible apply zS);(focus exact rfl))|((with_reducible apply zT);(focus exact rfl);(focus ((conv=>lhs;whnf);(first|done|fail))))|((with_reducible apply zU);(focus exact rfl);(focus ((conv=>lhs;whnf);(first|done|fail))))|((with_reducible apply zV);(focus ((conv=>lhs;whnf);(first|done|fail))))|((with_reducible apply zW);(focus exact rfl))|((with_reducible apply zX);(focus exact rfl))|((with_reducible apply zY);(focus exact rfl))|with_reducible exact zI|((with_reducible apply zZ);(focus exact rfl);(focus exact rfl);(focus exact rfl))|((with_reducible apply Ah);(focus exact rfl);(focus exact rfl);(focus ((omega);(first|done|fail))))|((with_reducible apply xM);(focus exact rfl);(focus exact rfl);(focus ((omega);(first|done|fail)));(focus ((omega);(first|done|fail))))|((with_reducible apply z8);(focus exact rfl);(focus exact rfl);(focus ((omega);(first|done|fail)));(focus ((omega);(first|done|fail))))|((with_reducible apply vM);(focus exact rfl);(focus exact rfl);(focus ((omega);(first|done|fail)));(focus ((omega);(first|done|fail))))|((with_reducible apply zQ);(focus exact rfl);(focus exact rfl);(focus ((omega);(first|done|fail)));(focus ((omega);(first|done|fail))))|((with_reducible apply Ac);(focus exact rfl);(focus exact rfl);(focus ((first|assumption|kernel_rfl);(first|done|fail))))|((with_reducible apply Ad);(focus exact rfl);(focus exact rfl);(focus ((first|assumption|kernel_rfl);(first|done|fail))))|((with_reducible apply Ae);(focus exact rfl);(focus exact rfl))|((with_reducible apply Af);(focus exact rfl);(focus exact rfl))|((with_reducible apply Ag);(focus exact rfl);(focus exact rfl);(focus ((omega);(first|done|fail)));(focus ((omega);(first|done|fail)))));(first|done|fail))))
   |((with_reducible apply Py);(focus exact rfl);(focus exact rfl);(focus (repeat (first|with_reducible exact EvL.nil|((with_reducible apply EvL.cons);(conv=>lhs;whnf)))));(focus (repeat (first|with_reducible exact EvL.nil|((with_reducible apply EvL.cons);(conv=>lhs;whnf))))))
   |((with_reducible apply Pt);(focus exact rfl);(focus exact rfl);(focus (repeat (first|with_reducible exact Fill.nil|((with_reducible apply Fill.cons);(conv=>lhs;whnf);(conv=>lhs;whnf);(focus exact rfl);(conv=>lhs;whnf))))))
   |((with_reducible apply Pv);(focus exact rfl);(focus exact rfl);(focus (repeat (first|with_reducible exact Fill.nil|((with_reducible apply Fill.cons);(conv=>lhs;whnf);(conv=>lhs;whnf);(focus exact rfl);(conv=>lhs;whnf))))))
   |((with_reducible apply Pw);(focus exact rfl);(focus exact rfl);(focus ((conv=>lhs;whnf);(first|done|fail)));(focus ((conv=>lhs;whnf);(first|done|fail))))
   |((with_reducible apply O6);(focus exact rfl);(focus exact rfl))
   |((with_reducible apply O7);(focus exact rfl);(focus exact rfl);(focus exact rfl);(focus ((repeat (first|with_reducible exact aj.here|with_reducible apply aj.there|with_reducible apply aj.app));(first|done|fail)));(focus ((conv=>lhs;whnf);(first|done|fail))))
   |((with_reducible apply O8);(focus exact rfl);(focus exact rfl);(focus exact rfl);(focus ((repeat (first|with_reducible exact aj.here|with_reducible apply aj.there|with_reducible apply aj.app));(first|done|fail)));(focus ((conv=>lhs;whnf);(first|done|fail))))
   |((with_reducible apply O9);(focus exact rfl);(focus exact rfl);(focus exact rfl);(focus (((repeat (first|with_reducible exact bF .. |with_reducible apply bB));first|done|fail);(first|done|fail)));(focus ((conv=>lhs;whnf);(first|done|fail))))
   |((with_reducible apply Jd);(focus exact rfl);(focus exact rfl);(focus exact rfl);(focus (((repeat (first|with_reducible exact bF .. |with_reducible apply bB));first|done|fail);(first|done|fail)));(focus ((conv=>lhs;whnf);(first|done|fail))))
   |((with_reducible apply Pb);(focus exact rfl);(focus exact rfl);(focus exact rfl);(focus (((repeat (first|with_reducible exact bF .. |with_reducible apply bB));first|done|fail);(first|done|fail)));(focus ((conv=>lhs;whnf);(first|done|fail))))
   |((with_reducible apply EO);(focus exact rfl);(focus exact rfl);(focus exact rfl);(focus (((repeat (first|with_reducible exact bF .. |with_reducible apply bB));first|done|fail);(first|done|fail)));(focus ((conv=>lhs;whnf);(first|done|fail))))
   |((with_reducible apply Px);(focus exact rfl);(focus exact rfl);(focus ((conv=>lhs;whnf);(first|done|fail)));(focus ((conv=>lhs;whnf);(first|done|fail)));(focus exact rfl);(focus ((repeat (first|with_reducible exact aj.here|with_reducible apply aj.there|with_reducible apply aj.app));(first|done|fail)));(focus ((conv=>lhs;whnf);(first|done|fail))))
   |((with_reducible apply Pe);(focus exact rfl);(focus exact rfl);(focus ((conv=>lhs;whnf);(first|done|fail)));(focus (((repeat (first|with_reducible exact bF .. |with_reducible apply bB));first|done|fail);(first|done|fail))))
   |((with_reducible apply Pf);(focus exact rfl);(focus exact rfl);(focus ((conv=>lhs;whnf);(first|done|fail)));(focus ((repeat (first|with_reducible exact aj.here|with_reducible apply aj.there|with_reducible apply aj.app));(first|done|fail))))
   |((with_reducible apply Po (re:=_::_));(focus exact rfl);(focus exact rfl);(focus ((first|((with_reducible apply zB);(focus ((conv=>lhs;whnf);(first|done|fail))))|((with_reducible apply zC);(focus ((conv=>lhs;whnf);(first|done|fail))))|((with_reducible apply zH);(focus exact rfl))|((with_reducible apply zJ);(focus exact rfl);(focus exact rfl))|((with_reducible apply zK);(focus exact rfl);(focus exact rfl))|((with_reducible apply zM);(focus exact rfl);(focus exact rfl))|((with_reducible apply zN);(focus exact rfl);(focus exact rfl))|((with_reducible apply zO);(focus exact rfl);(focus exact rfl))|((with_reducible apply zP);(focus exact rfl);(focus exact rfl))|((with_reducible apply zG);(focus exact rfl))|((with_reducible apply zD);(focus exact rfl);(focus ((conv=>lhs;whnf);(first|done|fail))))|((with_reducible apply zF);(focus exact rfl);(focus ((conv=>lhs;whnf);(first|done|fail))))|((with_reducible apply zR);(focus exact rfl);(focus ((conv=>lhs;whnf);(first|done|fail))))|((with_reducible apply zS);(focus exact rfl))|((with_reducible apply zT);(focus exact rfl);(focus ((conv=>lhs;whnf);(first|done|fail))))|((with_reducible apply zU);(focus exact rfl);(focus ((conv=>lhs;whnf);(first|done|fail))))|((with_reducible apply zV);(focus ((conv=>lhs;whnf);(first|done|fail))))|((with_reducible apply zW);(focus exact rfl))|((with_reducible apply zX);(focus exact rfl))|((with_reducible apply zY);(focus exact rfl))|with_reducible exact zI|((with_reducible apply zZ);(focus exact rfl);(focus exact rfl);(focus exact rfl))|((with_reducible apply Ah);(focus exact rfl);(focus exact rfl);(focus ((omega);(first|done|fail))))|((with_reducible apply xM);(focus exact rfl);(focus exact rfl);(focus ((omega);(first|done|fail)));(focus ((omega);(first|done|fail))))|((with_reducible apply z8);(focus exact rfl);(focus exact rfl);(focus ((omega);(first|done|fail)));(focus ((omega);(first|done|fail))))|((with_reducible apply vM);(focus exact rfl);(focus exact rfl);(focus ((omega);(first|done|fail)));(focus ((omega);(first|done|fail))))|((with_reducible apply zQ);(focus exact rfl);(focus exact rfl);(focus ((omega);(first|done|fail)));(focus ((omega);(first|done|fail))))|((with_reducible apply Ac);(focus exact rfl);(focus exact rfl);(focus ((first|assumption|kernel_rfl);(first|done|fail))))|((with_reducible apply Ad);(focus exact rfl);(focus exact rfl);(focus ((first|assumption|kernel_rfl);(first|done|fail))))|((with_reducible apply Ae);(focus exact rfl);(focus exact rfl))|((with_reducible apply Af);(focus exact rfl);(focus exact rfl))|((with_reducible apply Ag);(focus exact rfl);(focus exact rfl);(focus ((omega);(first|done|fail)));(focus ((omega);(first|done|fail)))));(first|done|fail)));(focus ((repeat (first|exact vO|refine vP rfl (by repeat (first|with_reducible exact aj.here|with_reducible apply aj.there|with_reducible apply aj.app)) (by first|exact rfl|(conv=>lhs;whnf)) rfl ?_|refine xN rfl (by(repeat (first|with_reducible exact bF .. |with_reducible apply bB));first|done|fail) (by first|exact rfl|(conv=>lhs;whnf)) rfl ?_|refine xO rfl (by(repeat (first|with_reducible exact bF .. |with_reducible apply bB));first|done|fail) (by first|exact rfl|(conv=>lhs;whnf)) rfl ?_|refine xP rfl (by repeat (first|with_reducible exact aj.here|with_reducible apply aj.there|with_reducible apply aj.app)) (by first|exact rfl|(conv=>lhs;whnf)) rfl ?_|refine xQ rfl (by(repeat (first|with_reducible exact bF .. |with_reducible apply bB));first|done|fail) (by first|exact rfl|(conv=>lhs;whnf)) rfl ?_|refine xR rfl (by(repeat (first|with_reducible exact bF .. |with_reducible apply bB));first|done|fail) (by first|exact rfl|(conv=>lhs;whnf)) rfl ?_));(first|done|fail))))
   |((with_reducible apply Pn (re:=_::_));(focus exact rfl);(focus exact rfl);(focus ((conv=>lhs;whnf);(first|done|fail)));(focus ((conv=>lhs;whnf);(first|done|fail)));(focus exact rfl);(focus ((repeat (first|with_reducible exact aj.here|with_reducible apply aj.there|with_reducible apply aj.app));(first|done|fail)));(focus ((conv=>lhs;whnf);(first|done|fail)));(focus ((repeat (first|exact vO|refine vP rfl (by repeat (first|with_reducible exact aj.here|with_reducible apply aj.there|with_reducible apply aj.app)) (by first|exact rfl|(conv=>lhs;whnf)) rfl ?_|refine xN rfl (by(repeat (first|with_reducible exact bF .. |with_reducible apply bB));first|done|fail) (by first|exact rfl|(conv=>lhs;whnf)) rfl ?_|refine xO rfl (by(repeat (first|with_reducible exact bF .. |with_reducible apply bB));first|done|fail) (by first|exact rfl|(conv=>lhs;whnf)) rfl ?_|refine xP rfl (by repeat (first|with_reducible exact aj.here|with_reducible apply aj.there|with_reducible apply aj.app)) (by first|exact rfl|(conv=>lhs;whnf)) rfl ?_|refine xQ rfl (by(repeat (first|with_reducible exact bF .. |with_reducible apply bB));first|done|fail) (by first|exact rfl|(conv=>lhs;whnf)) rfl ?_|refine xR rfl (by(repeat (first|with_reducible exact bF .. |with_reducible apply bB));first|done|fail) (by first|exact rfl|(conv=>lhs;whnf)) rfl ?_));(first|done|fail))))
   |fail)
  |((with_reducible apply bN.all);intro _)
  |with_reducible apply bN.imp)
 with_reducible exact bN.refl _):G:=r.h x
end Go.Ideal
namespace Go.Ideal
variable {P:Program}
section
variable {B:List Nat} {w0:Wd} {kl kl' aR k1 k2:List OA} {F:List aB} {K:KO} {n:Nat} {l:List (Nat×Value)} {D:List Deferred} {pm:Option FrameMode} {ro:Option Nat} {Q:IH->Prop} {ds:List Tmp} {rest:List bz} {d:Nat} {g:Option (Tmp×Bool)}
end
