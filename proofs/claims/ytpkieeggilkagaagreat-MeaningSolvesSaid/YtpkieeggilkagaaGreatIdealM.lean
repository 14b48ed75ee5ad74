/-
  The ideal machine, 61: plain data as things, with bounds.
-/
import Derived.Test.YtpkieeggilkagaaGreatIdealK
import Derived.Test.YtpkieeggilkagaaGreatIdealL
set_option linter.unusedSimpArgs false
set_option linter.unusedVariables false
namespace Go.Ideal
open Go.ChangeShapes Go.WideShapes Go.ChangeAt Go.RowKit
variable {P:Program}
def zCw{α:Type}(P:Program)(t:TypeId)(E:Enc α)(G:α→Prop):Prop:=∀(w:Wd) (H:Type) (d:DataW H) (cs:List Value),(∀i,i<w.h.next→w.z i)→Rep P w.h t cs d→∃a y,cs=E.pat a y∧(∀f∈E.fs a y,f.p w)∧G a
def I64(n:Int):Prop:= -9223372036854775808≤n∧n<9223372036854775808
def SlG{α:Type}(G:α→Prop)(xs:List α):Prop:=xs.length<9223372036854775808∧∀x∈xs,G x
theorem zPC{t:TypeId}(ht:P.underlying t=some (.int .i64)):zCw P t intE I64:=fun w H d cs hz r=>by
 obtain⟨n,rfl,_,h⟩:=r.int_inv ht;refine⟨n,(),rfl,(fun f hf=>by cases hf),?_⟩;simp only[Lit.wf,IntKind.min,IntKind.max,IntKind.signed,IntKind.bits,Bool.and_eq_true,decide_eq_true_eq]at h;simp at h;exact⟨by omega,by omega⟩
theorem zOr{t:TypeId}(ht:P.underlying t=some .string):zCw P t zC0 (fun _=>True):=fun w H d cs hz r=>by
 obtain⟨n,rfl,_⟩:=r.string_inv ht;exact⟨n,(),rfl,(fun f hf=>by cases hf),trivial⟩
theorem zAF{α:Type}{t e:TypeId}{E:Enc α}{G:α→Prop}(ht:P.underlying t=some (.slice e))(hn:P.cellsOf e=E.n)(he:zCw P e E G):zCw P t (slE E) (SlG G):=fun w H d cs hz r=>by
 rcases r.slice_inv ht with⟨rfl,_⟩|⟨i,n,c,cells,els,rest,rfl,_,hnc,hl,hcl,hel⟩
 ·exact⟨[],_,rfl,(fun f hf=>by rw[List.mem_singleton.1 hf];exact .inl ⟨rfl,none,0,rfl,trivial⟩),by simp,fun x hx=>by cases hx⟩
 ·have hmax:maxLen=9223372036854775807:=by decide
  obtain⟨xs,hx1,hx2⟩:=zIw (p:=fun k a=>(∃y,(cells.drop (k*E.n)).take E.n=E.pat a y∧∀f∈E.fs a y,f.p w)∧G a) n (fun k hk=>by
   have hk':k<els.length:=by omega
   have:=hel k els[k] (List.getElem?_eq_getElem hk');rw[hn]at this;obtain⟨a,y,q1,q2,q3⟩:=he w H _ _ hz this;exact⟨a,⟨y,q1,q2⟩,q3⟩)
  refine⟨xs,_,rfl,fun f hf=>?_,by omega,fun x hx=>?_⟩
  ·rw[List.mem_singleton.1 hf];rcases hcl with h0|hcl
   ·left;have:xs=[]:=List.length_eq_zero_iff.1 (by omega);exact⟨this,some ⟨i,0,some 0⟩,c,by rw[h0],Or.inl rfl⟩
   ·right;refine⟨i,0,0,c,cells,⟨by rw[hx1],by rw[hx1];exact hnc.1,.inl rfl⟩,⟨hz i hcl.1,hcl.2⟩,fun k x hk=>?_⟩;obtain⟨⟨y,q1,q2⟩,_⟩:=hx2 k x hk;refine⟨y,fun j u hj=>?_,q2⟩;rw[← q1,List.getElem?_take]at hj;split at hj
    ·rw[List.getElem?_drop]at hj;rw[Nat.zero_add];exact hj
    ·cases hj
  ·obtain⟨k,hk⟩:=List.getElem?_of_mem hx;exact(hx2 k x hk).2
inductive zFC(P:Program):{α:Type}→List Field→Enc α→(α→Prop)→Prop
 |nil:zFC P [] zTF (fun _=>True)
 |cons {α β:Type} {f:Field} {fs:List Field} {E1:Enc α} {E2:Enc β} {G1:α→Prop} {G2:β→Prop} (h:zCw P f.type E1 G1) (hn:P.cellsOf f.type=E1.n) (t:zFC P fs E2 G2):zFC P (f::fs) (zSk E1 E2) (fun x=>G1 x.1∧G2 x.2)
theorem zFC.rep{w:Wd}{H:Type}(hz:∀i,i<w.h.next→w.z i):∀{α:Type} {fs:List Field} {E:Enc α} {G:α→Prop},zFC P fs E G→∀(o0:Nat) (cs:List Value) (ds:List (DataW H)),cs.length=(fs.map fun f=>P.cellsOf f.type).sum→ds.length=fs.length→
 fs.map (·.offset)=sums o0 (fs.map fun f=>P.cellsOf f.type)→(∀(j:Nat) f d,fs[j]? =some f→ds[j]? =some d→Rep P w.h f.type ((cs.drop (f.offset - o0)).take (P.cellsOf f.type)) d)→∃a y,cs=E.pat a y∧(∀f∈E.fs a y,f.p w)∧G a
 |_,_,_,_,.nil,o0,cs,ds,h1,h2,h3,h4=>⟨(),(),List.length_eq_zero_iff.1 (by simpa using h1),(fun f hf=>by cases hf),trivial⟩
 |_,_,_,_,.cons (f:=f) (fs:=fs) (E1:=E1) (E2:=E2) h hn t,o0,cs,ds,h1,h2,h3,h4=>by
  match ds,h2 with
  |d::ds,h2=>
   simp only[List.map_cons,List.sum_cons,sums,List.cons.injEq]at h1 h3;obtain⟨ho,h3⟩:=h3;have r0:=h4 0 f d rfl rfl;rw[ho,Nat.sub_self,List.drop_zero]at r0;obtain⟨a,y,q1,q2,q3⟩:=h w H d _ hz r0;obtain⟨b,z,u1,u2,u3⟩:=zFC.rep hz t (o0+P.cellsOf f.type) (cs.drop (P.cellsOf f.type)) ds (by rw[List.length_drop];omega) (by simpa using h2) h3 (fun j g e hg he=>by
    have:=h4 (j+1) g e hg he;rw[List.drop_drop];have hle:o0+P.cellsOf f.type≤g.offset:=by
     have hj:(fs.map (·.offset))[j]? =some g.offset:=by rw[List.getElem?_map,hg];rfl
     rw[h3]at hj;have hs:(fs.map fun f=>P.cellsOf f.type)[j]? =some (P.cellsOf g.type):=by rw[List.getElem?_map,hg];rfl
     exact(zBS _ ([]:List Value) (o0+P.cellsOf f.type) j _ _ hj hs).2
    rw[show P.cellsOf f.type+(g.offset - (o0+P.cellsOf f.type))=g.offset - o0 by omega];exact this)
   refine⟨(a,b),(y,z),?_,?_,q3,u3⟩
   ·show cs=E1.pat a y++E2.pat b z;rw[← q1,← u1,List.take_append_drop]
   ·intro g hg;rcases List.mem_append.1 hg with hg|hg
    ·exact q2 g hg
    ·exact u2 g hg
theorem zu{α:Type}{t:TypeId}{fs:Array Field}{E:Enc α}{G:α→Prop}(ht:P.underlying t=some (.struct fs))(ho:fs.toList.map (·.offset)=sums 0 (fs.toList.map fun f=>P.cellsOf f.type))
 (hs:P.cellsOf t=(fs.toList.map fun f=>P.cellsOf f.type).sum) (h:zFC P fs.toList E G):zCw P t E G:=fun w H d cs hz r=>by
 obtain⟨ds,_,h1,h2,h3⟩:=r.struct_inv ht;refine h.rep hz 0 cs ds (by rw[h1,hs]) (by simpa using h2) ho fun j f d hf hd=>?_;rw[Nat.sub_zero];exact h3 j f d (by rw[← Array.getElem?_toList];exact hf) hd
theorem zCw.conv{α β:Type}{t:TypeId}{E:Enc α}{E':Enc β}{G:α→Prop}{G':β→Prop}(h:zCw P t E G)(hc:∀a y,G a→∃b z,E.pat a y=E'.pat b z∧E.fs a y=E'.fs b z∧G' b):zCw P t E' G':=fun w H d cs hz r=>by
 obtain⟨a,y,q1,q2,q3⟩:=h w H d cs hz r;obtain⟨b,z,e1,e2,e3⟩:=hc a y q3;exact⟨b,z,by rw[q1,e1],(fun f hf=>q2 f (by rw[e2];exact hf)),e3⟩
section
variable {H:Type}
theorem zN0.aggG{α:Type}{w:Wd}{t:TypeId}{v:Value}{d:DataW H}{E:Enc α}{G:α→Prop}(h:zN0 P w t v d)(hz:∀i,i<w.h.next→w.z i)(ha:zp P t=true)(hr:zCw P t E G):∃a y,v=.agg ⟨E.pat a y⟩∧(∀f∈E.fs a y,f.p w)∧G a:=by
 obtain⟨cs,r,⟨_,e⟩|⟨e,_⟩⟩:=h
 ·obtain⟨a,y,rfl,q⟩:=hr w H d cs hz r;exact⟨a,y,e,q⟩
 ·rw[ha]at e;cases e
theorem zN0.oneG{α:Type}{w:Wd}{t:TypeId}{v:Value}{d:DataW H}{E:Enc α}{G:α→Prop}(h:zN0 P w t v d)(hz:∀i,i<w.h.next→w.z i)(ha:zp P t=false)(hr:zCw P t E G):∃a y,E.pat a y=[v]∧(∀f∈E.fs a y,f.p w)∧G a:=by
 obtain⟨cs,r,⟨e,_⟩|⟨_,e⟩⟩:=h
 ·rw[ha]at e;cases e
 ·obtain⟨a,y,q0,q⟩:=hr w H d cs hz r;exact⟨a,y,by rw[← q0,e],q⟩
end
end Go.Ideal
namespace Go.Ideal
variable {P:Program}
theorem zAY.unsel{w:Wd}{A:OA}:∀{kl kl':List OA} {S:List Nat},Sel A kl kl'→zAY w (A::kl') S→∃S',zAY w kl S'∧S.Perm S'
 |_,_,S,.here,h=>⟨S,h,.refl _⟩
 |_,_,_,.there (C:=C) (l:=l) (l':=l') s,⟨S1,S2,h1,⟨T1,T2,h2,h3,e2⟩,e⟩=>by
  subst e e2;obtain⟨S',q1,q2⟩:=zAY.unsel (w:=w) (A:=A) s ⟨S1,T2,h1,h3,rfl⟩;refine⟨T1++S',⟨T1,S',h2,q1,rfl⟩,?_⟩;have:(S1++(T1++T2)).Perm (T1++(S1++T2)):=by
   rw[← List.append_assoc,← List.append_assoc];exact List.Perm.append_right T2 List.perm_append_comm
  exact this.trans (q2.append_left T1)
theorem Sel.at{α:Type}{a:α}:∀{l:List α} {k:Nat},l[k]? =some a→Sel a l (l.eraseIdx k)
 |[],k,h=>by simp at h
 |b::l,0,h=>by
  simp at h;subst h;exact .here
 |b::l,k+1,h=>.there (Sel.at (l:=l) (k:=k) (by simpa using h))
theorem zFg{α:Type}(a:α):∀(l:List α) (k:Nat),(l.set k a).eraseIdx k=l.eraseIdx k
 |[],k=>rfl
 |b::l,0=>rfl
 |b::l,k+1=>by simp[zFg a l k]
theorem R.perm{B:List Nat}{w0:Wd}{kl kl2:List OA}{F:List zJ}{Q:IH→Prop}(hp:∀w S,zAY w kl S→∃S',zAY w kl2 S'∧S.Perm S')(h:R Q B w0 kl2 F):R Q B w0 kl F:=fun w s=>by
 obtain⟨S,h1,h2,h3⟩:=s.own;obtain⟨S',q1,q2⟩:=hp w S h1;exact h w ⟨s.agree,s.le,s.zold,⟨S',q1,q2.nodup h2,fun i hi=>h3 i (q2.mem_iff.2 hi)⟩,s.facts⟩
abbrev dfr(r:Nat):Deferred:={target:=.collected r,args:= #[]}
def zRc(rs:List Nat):OA:=⟨fun w S=>zAY w (rs.map fun r=>pt r (.defs true)) S,fun a h hp=>zAY.loc a h hp⟩
section
variable {B:List Nat} {w0:Wd} {kl kl' klr k1 k2:List OA} {F:List zJ} {K:KO} {n:Nat} {l:List (Nat×Value)} {D:List Deferred} {pm:Option FrameMode} {ro:Option Nat} {Q:IH→Prop}
theorem zPy(h:R Q B w0 (zRc []::kl) F):R Q B w0 kl F:=.perm (kl2:=zRc []::kl) (fun w S hS=>⟨S,⟨[],S,rfl,hS,rfl⟩,.refl _⟩) h
theorem zRD{rs:List Nat}{r:Nat}(hk:autoParam (Sel (zRc rs) kl k1) zBN._auto_1)(hr:autoParam (Sel (pt r (.defs true)) k1 k2) zBN._auto_1)(h:R Q B w0 (zRc (r::rs)::k2) F):R Q B w0 kl F:=
 .perm (fun w S hS=>by
  obtain⟨S1,S2,q1,q2,hp⟩:=hS.selL (.cons hk (.cons hr .nil));obtain⟨T1,T2,u1,⟨T3,T4,u2,u3,e3⟩,e⟩:=q1;have u3:T4=[]:=u3;subst u3 e3 e;refine⟨(T3++T1)++S2,⟨T3++T1,S2,⟨T3,T1,u2,u1,rfl⟩,q2,rfl⟩,?_⟩;rw[List.append_nil]at hp;exact hp.trans (List.Perm.append_right S2 List.perm_append_comm)) h
theorem Coll.ofMap:∀(rs:List Nat) (kl:List OA),Coll ((rs.map fun r=>pt r (.defs true))++kl) (rs.map dfr) kl
 |[],kl=>.nil
 |r::rs,kl=>.cons .here (Coll.ofMap rs kl)
theorem zMm{Y:Type}{o:Out}{cf:zt}{vs:List Value}{val:Y→Value}{k1:Y→List OA}{fs:Y→List zJ}{pr:Y→Prop}{kl2:List OA}{rs:List Nat}(y:Y)(hc:autoParam (Sel (zRc rs) kl kl2) zBN._auto_1)
 (hr:autoParam (RS l kl2 cf.results vs) aRS._auto_1) (hv:zK8 vs=val y) (hp:pr y)
 (hk:autoParam (SelL (k1 y) kl2 klr) zBX._auto_1) (hF:autoParam (Sub (fs y) F) zFn._auto_1)
 (ho:o=.normal∨o=.ret:=by first|exact .inl rfl|exact .inr rfl):R (fun h=>zJb P cf (Left B w0 val k1 fs pr) o (act n l (rs.map dfr) none ro) h) B w0 kl F:=
 .perm (kl2:=(rs.map fun r=>pt r (.defs true))++kl2) (fun w S hS=>by
  obtain⟨S',⟨T1,T2,u1,u2,e⟩,hp⟩:=hS.sel hc;exact⟨S',by rw[e];exact zAY.app u1 u2,hp⟩) (zQN y (Coll.ofMap rs kl2) hr hv hp hk hF ho)
def LID{X:Type}(n:Nat)(D:X→List Deferred)(pm:Option FrameMode)(ro:Option Nat)(B:List Nat)(w0:Wd)(m:X→Nat)(L:X→List (Nat×Value))(KL:X→List OA)(FF:X→List zJ)(inv:X→Prop)
 (l0:List (Nat×Value)) (klr:List OA) (F0:List zJ):Nat→zU→IH→Prop:=fun r a h=>
 ∃(x:X) (w:Wd),r=m x∧a=act n (L x++l0) (D x) pm ro∧w.h=h∧St B w0 (KL x++klr) (FF x++F0) w∧inv x
theorem zM0{X:Type}{c:zS}{l0:List (Nat×Value)}{L2:X→List (Nat×Value)}{KL2:X→List OA}{FF2:X→List zJ}(DX:X→List Deferred)(m:X→Nat)(L:X→List (Nat×Value))(KL:X→List OA)(FF:X→List zJ)(inv:X→Prop)(x0:X)(hi:inv x0)
 (hD:DX x0=D:=by rfl)
 (h0:DelR l (L x0) l0:=by repeat (first|exact DelR.nil|(apply DelR.drop;(focus exact rfl))|(apply DelR.keep;(focus exact rfl)))) (hl:sub (L x0++l0) l:=by repeat (first|exact trivial|refine⟨rfl,?_⟩))
 (hk:autoParam (SelL (KL x0) kl klr) zBX._auto_1) (hF:autoParam (Sub (FF x0) F) zFn._auto_1)
 (hak:∀x,AppR (KL x) klr (KL2 x):=by intro y;repeat (first|exact AppR.nil|apply AppR.cons|exact AppR.self|exact AppR.app)) (haf:∀x,AppR (FF x) F (FF2 x):=by intro y;repeat (first|exact AppR.nil|apply AppR.cons|exact AppR.self|exact AppR.app))
 (hal:∀x,AppR (L x) l0 (L2 x):=by intro y;repeat (first|exact AppR.nil|apply AppR.cons|exact AppR.self|exact AppR.app))
 (body:∀x,inv x→R (fun h=>EV P c (act n (L2 x) (DX x) pm ro) h (zFP (LID n DX pm ro B w0 m L KL FF inv l0 klr F) (m x) K)) B w0 (KL2 x) (FF2 x)):
 R (fun h=>EV P (.loop c) (act n l D pm ro) h K) B w0 kl F:=by
 intro w s;subst hD;refine zNu (zCj hl) ?_;refine zQB (LID n DX pm ro B w0 m L KL FF inv l0 klr F) ?_ (m x0) _ _ ⟨x0,w,rfl,rfl,rfl,(s.selL hk).add (fun f hf=>s.facts f (hF.mem f hf)),hi⟩;rintro r a h ⟨x,w',rfl,rfl,rfl,s',hx⟩;have:=body x hx;rw[← (hak x).eq,← (haf x).eq,← (hal x).eq]at this;exact this w' s'
theorem zDa{X:Type}{DX:X→List Deferred}{m:X→Nat}{L:X→List (Nat×Value)}{KL:X→List OA}{FF:X→List zJ}{inv:X→Prop}{l0:List (Nat×Value)}{kl1 kl2:List OA}{F0:List zJ}{m0:Nat}(x:X)(hm:m x<m0)(hi:inv x)
 (hD:DX x=D:=by rfl)
 (hl:sub (L x++l0) l:=by repeat (first|exact trivial|refine⟨rfl,?_⟩)) (ha:AppR (KL x) klr kl1:=by repeat (first|exact AppR.nil|apply AppR.cons|exact AppR.self|exact AppR.app))
 (hk:autoParam (SelL kl1 kl kl2) zBX._auto_1) (hF:autoParam (Sub (FF x) F) zFn._auto_1)
 (hF0:Tail F0 F:=by repeat (first|exact Tail.here|apply Tail.cons|apply Tail.app)):
 R (fun h=>zFP (LID n DX pm ro B w0 m L KL FF inv l0 klr F0) m0 K .normal (act n l D pm ro) h) B w0 kl F:=by
 intro w s;subst hD;refine zUk (m x) hm hl ⟨x,w,rfl,rfl,rfl,?_,hi⟩;have s':=(s.selL hk).drop;rw[← ha.eq]at s';exact⟨s'.agree,s'.le,s'.zold,s'.own,fun f hf=>(List.mem_append.1 hf).elim (fun hf=>s.facts f (hF.mem f hf)) (fun hf=>s.facts f (hF0.mem f hf))⟩
def zMN{α:Type}(E:Enc α)(vs:List Value)(xss:List (List α)):List OA:=(vs.zip xss).map fun p=>ap E p.1 p.2
def zTi{α:Type}(E:Enc α)(b:Nat)(xss:List (List α)):OA:=
 ⟨fun w S=>∃vs:List Value,vs.length=xss.length∧zAY w (pt b (.cells vs)::zMN E vs xss) S,fun a h ⟨vs,h1,h2⟩=>⟨vs,h1,zAY.loc a h h2⟩⟩
def zU4{α:Type}(E:Enc α)(vs:List Value)(xss:List (List α))(k:Nat):OA:=
 ⟨fun w S=>zAY w ((zMN E vs xss).eraseIdx k) S,fun a h hp=>zAY.loc a h hp⟩
theorem zPL{α:Type}(E:Enc α){vs:List Value}{xss:List (List α)}{k:Nat}{v:Value}{xs:List α}(hv:vs[k]? =some v)(hx:xss[k]? =some xs):(zMN E vs xss)[k]? =some (ap E v xs):=by
 simp[zMN,List.zip,List.getElem?_map,List.getElem?_zipWith,hv,hx]
theorem zSF{α:Type}(E:Enc α){b:Nat}{xss:List (List α)}{k:Nat}{xs:List α}(hx:xss[k]? =some xs)(hk:autoParam (Sel (zTi E b xss) kl kl') zBN._auto_1)
 (h:∀(vs:List Value) (v:Value),vs.length=xss.length→vs[k]? =some v→R Q B w0 (pt b (.cells vs)::ap E v xs::zU4 E vs xss k::kl') F):R Q B w0 kl F:=fun w s=>by
 obtain⟨S,⟨S1,S2,⟨vs,h1,h2⟩,q2,e⟩,hnd,hall⟩:=(s.sel hk).own;subst e;have hlt:=(List.getElem?_eq_some_iff.1 hx).1;have hv:vs[k]? =some (vs[k]'(by omega)):=List.getElem?_eq_getElem (by omega);refine h vs _ h1 hv w ?_;have hg:(zMN E vs xss)[k]? =some (ap E (vs[k]'(by omega)) xs):=zPL E hv hx;obtain⟨T1,T2,u1,u2,e⟩:=h2;obtain⟨T3,⟨T4,T5,u4,u5,e5⟩,u6⟩:=u2.sel (Sel.at hg);subst e5 e;have hperm:((T1++T2)++S2).Perm (T1++(T4++(T5++S2))):=by
  rw[List.append_assoc];refine List.Perm.append_left T1 ?_;rw[← List.append_assoc];exact List.Perm.append_right S2 u6
 exact⟨s.agree,s.le,s.zold,⟨T1++(T4++(T5++S2)),⟨T1,_,u1,⟨T4,_,u4,⟨T5,S2,u5,q2,rfl⟩,rfl⟩,rfl⟩,hperm.nodup hnd,fun i hi=>hall i (hperm.mem_iff.2 hi)⟩,s.facts⟩
theorem zPi{α:Type}(E:Enc α){vs:List Value}{xss:List (List α)}{k:Nat}{v:Value}{xs:List α}:zMN E (vs.set k v) (xss.set k xs)=(zMN E vs xss).set k (ap E v xs):=by
 apply List.ext_getElem?;intro j;simp only[zMN,List.getElem?_map,List.getElem?_set,List.zip,List.getElem?_zipWith];by_cases e:k=j
 ·subst e;by_cases h1:k<vs.length
  ·by_cases h2:k<xss.length
   ·simp[h1,h2];omega
   ·simp[h1,h2];omega
  ·simp[h1];omega
 ·simp[e]
theorem zSt{α:Type}(E:Enc α){b:Nat}{xss:List (List α)}{vs:List Value}{k:Nat}{v:Value}{xs:List α}(hlen:vs.length=xss.length)(hk:k<xss.length)(h1:autoParam (Sel (pt b (.cells (vs.set k v))) kl k1) zBN._auto_1)
 (h2:autoParam (Sel (ap E v xs) k1 k2) zBN._auto_1) (h3:autoParam (Sel (zU4 E vs xss k) k2 klr) zBN._auto_1) (h:R Q B w0 (zTi E b (xss.set k xs)::klr) F):R Q B w0 kl F:=
 .perm (fun w S hS=>by
  obtain⟨S1,S2,q1,q2,hp⟩:=hS.selL (.cons h1 (.cons h2 (.cons h3 .nil)));obtain⟨T1,U1,u1,⟨T2,U2,u2,⟨T3,U3,u3,u4,e3⟩,e2⟩,e1⟩:=q1;have u4:U3=[]:=u4;subst u4 e3 e2 e1;have hl:((zMN E vs xss).set k (ap E v xs))[k]? =some (ap E v xs):=by
   rw[List.getElem?_set,if_pos rfl,if_pos (by simp[zMN];omega)]
  obtain⟨V,v1,v2⟩:=zAY.unsel (Sel.at hl) (S:=T2++T3) (w:=w) ⟨T2,T3,u2,by rw[zFg];exact u3,rfl⟩;refine⟨(T1++V)++S2,⟨T1++V,S2,⟨vs.set k v,by simp[hlen],⟨T1,V,u1,by rw[zPi];exact v1,rfl⟩⟩,q2,rfl⟩,hp.trans ?_⟩;rw[List.append_nil];exact List.Perm.append_right S2 (List.Perm.append_left T1 v2)) h
theorem zQw{α:Type}(E:Enc α){b m:Nat}(hk:autoParam (Sel (pt b (.cells (List.replicate m (.slice none 0 0)))) kl kl') zBN._auto_1)(h:R Q B w0 (zTi E b (List.replicate m ([]:List α))::kl') F):R Q B w0 kl F:=
 .perm (fun w S hS=>by
  obtain⟨S',⟨T1,T2,u1,u2,e⟩,hp⟩:=hS.sel hk;refine⟨S',⟨T1,T2,⟨List.replicate m (.slice none 0 0),by simp,⟨T1,[],u1,?_,by simp⟩⟩,u2,e⟩,hp⟩;have:∀m,zAY w (zMN E (List.replicate m (.slice none 0 0)) (List.replicate m [])) []:=by
   intro m;induction m with
   |zero=>rfl
   |succ m ih=>exact⟨[],[],.inl ⟨rfl,rfl,rfl⟩,ih,rfl⟩
  exact this m) h
end
end Go.Ideal
namespace Go.Ideal
noncomputable def zK2:Nat→T z4→T z4→Bool
 |0,_,_=>false
 |n+1,a,b=>match a,b with
  | .leaf,.leaf=>true
  | .node v l r,.node v' l' r'=>(match v,v' with
    |none,none=>true
    |some o,some o'=>zN9 o o'
    |_,_=>false)&&(zK2 n l l'&&zK2 n r r')
  |_,_=>false
theorem zHI:∀(n:Nat) {a b:T z4},zK2 n a b=true→a=b
 |0,_,_,h=>by cases h
 |n+1,a,b,h=>by
  unfold zK2 at h;split at h
  ·rfl
  ·simp only[Bool.and_eq_true]at h;obtain⟨h1,h2,h3⟩:=h;rw[zHI n h2,zHI n h3];split at h1
   ·rfl
   ·rw[zJX h1]
   ·cases h1
  ·cases h
noncomputable def zD1(h0:IH)(l:List (Nat×z4))(n:Nat)(fn:Nat)(args:List Value)(v:Value):Req→IH→Option (Value×IH):=fun q h=>
 match q with
 |⟨.func f,as,[],none⟩=>cond (Nat.beq f fn&&(zCS 5 (.tuple ⟨args⟩) (.tuple ⟨as⟩)&&(Nat.beq h0.next h.next&&(Nat.beq h0.low h.low&&zK2 30 h0.t h.t)))) (some (v,⟨heapT l,n,0⟩)) none
 |_=>none
theorem zG4{P:Program}{h0:IH}{l:List (Nat×z4)}{n fn:Nat}{args:List Value}{v:Value}(hall:(List.range h0.next).all (fun i=>((heapT l).get i).isSome)=true)
 (hc:CALL P ⟨.func fn,args,[],none⟩ h0 (fun r pm h'=>leaves l n v r pm h'=true))
 {q:Req} {h:IH} {v':Value} {h':IH} (hk:zD1 h0 l n fn args v q h=some (v',h')):CALL P q h (fun r pm h2=>r=.ok v'∧pm=none∧h2=h'):=by
 unfold zD1 at hk;split at hk
 ·rename_i f as;cases hcd:(Nat.beq f fn&&(zCS 5 (.tuple ⟨args⟩) (.tuple ⟨as⟩)&&(Nat.beq h0.next h.next&&(Nat.beq h0.low h.low&&zK2 30 h0.t h.t))))with
  |false=>rw[hcd]at hk;cases hk
  |true=>
   rw[hcd]at hk;simp only[cond,Option.some.injEq,Prod.mk.injEq]at hk;obtain⟨rfl,rfl⟩:=hk;simp only[Bool.and_eq_true]at hcd;obtain⟨h1,h2,h3,h4,h5⟩:=hcd;have h1:=zAo h1;subst h1;have h2:=zBT _ _ _ h2;injection h2 with h2;injection h2 with h2;subst h2;have e3:=zAo h3;have e4:=zAo h4;have e5:=zHI _ h5;clear h3 h4 h5;obtain⟨t0,n0,l0⟩:=h0;obtain⟨t1,n1,l1⟩:=h;dsimp only at e3 e4 e5;subst e3 e4 e5;refine .forget _ hc ?_;intro r pm h' hl;unfold leaves at hl;split at hl
   ·cases hl
   ·split at hl
    ·rename_i v';simp only[Bool.and_eq_true]at hl;obtain⟨⟨⟨h1,h2⟩,h3⟩,h4⟩:=hl;refine⟨⟨heapT l,n,0⟩,(zAo h2).symm,(zAo h3).symm,?_,?_,rfl,rfl⟩
     ·intro i;rcases zE1 l i with e|⟨o,e1,e2⟩
      ·refine .inr ⟨?_,e⟩;apply Classical.byContradiction;intro hno;rw[List.all_eq_true]at hall;have:=hall i (List.mem_range.2 (Nat.lt_of_not_le hno));rw[e]at this;cases this
      ·left;exact e2.trans (zJ4 h4 i o e1).symm
     ·rw[zBT _ _ _ h1]
    ·cases hl
 ·cases hk
end Go.Ideal
namespace Go.Ideal
variable {P:Program}
def zPe{X:Type}(n:Nat)(D:List Deferred)(pm:Option FrameMode)(ro:Option Nat)(B:List Nat)(w0:Wd)(L:X→List (Nat×Value))(KL:X→List OA)(FF:X→List zJ)(inv:X→Prop)(l0:List (Nat×Value))(klr:List OA)(F0:List zJ)(K:KO):KO:=fun o a h=>
 match o with
 | .normal=>∃(x:X) (l:List (Nat×Value)) (w:Wd),a=act n l D pm ro∧sub (L x++l0) l∧w.h=h∧St B w0 (KL x++klr) (FF x++F0) w∧inv x
 |o=>K o a h
section
variable {B:List Nat} {w0:Wd} {kl kl' klr k1 k2:List OA} {F:List zJ} {K:KO} {n:Nat} {l:List (Nat×Value)} {D:List Deferred} {pm:Option FrameMode} {ro:Option Nat} {Q:IH→Prop}
section
variable {X:Type} {n2:Nat} {D2:List Deferred} {pm2:Option FrameMode} {ro2:Option Nat} {B2:List Nat} {w2:Wd} {L:X→List (Nat×Value)} {KL:X→List OA} {FF:X→List zJ} {inv:X→Prop} {l0:List (Nat×Value)} {F0:List zJ}
theorem zTG{a:zU}(h:R (fun h=>K .ret a h) B w0 kl F):R (fun h=>zPe n2 D2 pm2 ro2 B2 w2 L KL FF inv l0 klr F0 K .ret a h) B w0 kl F:=h
theorem zVI{a:zU}{ch:List PanicEntry}(h:R (fun h=>K (.panic ch) a h) B w0 kl F):R (fun h=>zPe n2 D2 pm2 ro2 B2 w2 L KL FF inv l0 klr F0 K (.panic ch) a h) B w0 kl F:=h
theorem zBt{kl1 kl2:List OA}(x:X)(hi:inv x)(hl:sub (L x++l0) l:=by repeat (first|exact trivial|refine⟨rfl,?_⟩))
 (ha:AppR (KL x) klr kl1:=by repeat (first|exact AppR.nil|apply AppR.cons|exact AppR.self|exact AppR.app))
 (hk:autoParam (SelL kl1 kl kl2) zBX._auto_1) (hF:autoParam (Sub (FF x) F) zFn._auto_1)
 (hF0:Tail F0 F:=by repeat (first|exact Tail.here|apply Tail.cons|apply Tail.app)):
 R (fun h=>zPe n D pm ro B w0 L KL FF inv l0 klr F0 K .normal (act n l D pm ro) h) B w0 kl F:=fun w s=>by
 refine⟨x,l,w,rfl,hl,rfl,?_,hi⟩;have s':=(s.selL hk).drop;rw[← ha.eq]at s';exact⟨s'.agree,s'.le,s'.zold,s'.own,fun f hf=>(List.mem_append.1 hf).elim (fun hf=>s.facts f (hF.mem f hf)) (fun hf=>s.facts f (hF0.mem f hf))⟩
end
theorem zJF{X:Type}{x y:zS}{l0:List (Nat×Value)}{L2:X→List (Nat×Value)}{KL2:X→List OA}{FF2:X→List zJ}(ks:List Nat)(L:X→List (Nat×Value))(KL:X→List OA)(FF:X→List zJ)(inv:X→Prop)
 (hx:R (fun h=>EV P x (act n l D pm ro) h (zPe n D pm ro B w0 L KL FF inv l0 klr F K)) B w0 kl F)
 (hy:∀z,inv z→R (fun h=>EV P y (act n (L2 z) D pm ro) h K) B w0 (KL2 z) (FF2 z))
 (h0:DelR l (ks.map fun k=>(k,zEc)) l0:=by repeat (first|exact DelR.nil|(apply DelR.drop;(focus exact rfl))|(apply DelR.keep;(focus exact rfl))))
 (hal:∀x,AppR (L x) l0 (L2 x):=by intro y;repeat (first|exact AppR.nil|apply AppR.cons|exact AppR.self|exact AppR.app))
 (hak:∀x,AppR (KL x) klr (KL2 x):=by intro y;repeat (first|exact AppR.nil|apply AppR.cons|exact AppR.self|exact AppR.app)) (haf:∀x,AppR (FF x) F (FF2 x):=by intro y;repeat (first|exact AppR.nil|apply AppR.cons|exact AppR.self|exact AppR.app)):
 R (fun h=>EV P x (act n l D pm ro) h (zQC P y K)) B w0 kl F:=fun w s=>by
 refine zG3 (hx w s) _ ?_;intro o a h hm;cases o with
 |normal=>
  obtain⟨z,l',w',rfl,hl,rfl,s',hz⟩:=hm;have:=hy z hz;rw[← (hak z).eq,← (haf z).eq,← (hal z).eq]at this;exact zNu (zCj hl) (this w' s')
 |exit j=>exact hm
 |ret=>exact hm
 |panic ch=>exact hm
end
theorem goB{G G':Prop}(x:G')(r:Red G G':=by
 repeat (first
  |((with_reducible apply Red.trans);first
   |with_reducible exact rd_seq
   |with_reducible exact rd_ops
   |with_reducible exact rd_scope
   |with_reducible exact rd_skip
   |with_reducible exact rd_exit
   |with_reducible exact rd_ret
   |with_reducible exact rd_nil
   |with_reducible exact rd_sn
   |with_reducible exact rd_sr
   |with_reducible exact rd_se
   |with_reducible exact rd_sp
   |with_reducible exact rd_bn
   |with_reducible exact rd_br
   |with_reducible exact rd_bp
   |with_reducible exact rd_lr
   |with_reducible exact rd_le
   |with_reducible exact rd_lp
   |((with_reducible apply rd_be);exact rfl)
   |((with_reducible apply rd_bf);exact rfl)
   |((with_reducible apply rd_condT);(focus exact rfl))
   |((with_reducible apply rd_condF);(focus exact rfl))
   |((with_reducible apply d_skip);(focus exact rfl);(focus exact rfl))
   |((with_reducible apply d_idxIn);(focus exact rfl);(focus exact rfl);(focus ((conv=>lhs;whnf);(first|done|fail)));(focus exact rfl);(focus (((repeat (first|with_reducible exact List.mem_cons_self .. |with_reducible apply List.mem_cons_of_mem));first|done|fail);(first|done|fail)));(focus ((omega);(first|done|fail))))
   |((with_reducible apply d_idxBn);(focus exact rfl);(focus exact rfl);(focus ((conv=>lhs;whnf);(first|done|fail)));(focus exact rfl);(focus (((repeat (first|with_reducible exact List.mem_cons_self .. |with_reducible apply List.mem_cons_of_mem));first|done|fail);(first|done|fail)));(focus ((omega);(first|done|fail))))
   |((with_reducible apply d_idxI);(focus exact rfl);(focus exact rfl);(focus ((conv=>lhs;whnf);(first|done|fail)));(focus exact rfl);(focus (((repeat (first|with_reducible exact List.mem_cons_self .. |with_reducible apply List.mem_cons_of_mem));first|done|fail);(first|done|fail)));(focus ((omega);(first|done|fail)));(focus ((omega);(first|done|fail))))
   |((with_reducible apply d_idxB);(focus exact rfl);(focus exact rfl);(focus ((conv=>lhs;whnf);(first|done|fail)));(focus exact rfl);(focus (((repeat (first|with_reducible exact List.mem_cons_self .. |with_reducible apply List.mem_cons_of_mem));first|done|fail);(first|done|fail)));(focus ((omega);(first|done|fail)));(focus ((omega);(first|done|fail))))
   |((with_reducible apply d_p);(focus exact rfl);(focus exact rfl);(focus ((first|((with_reducible apply p_mv);(focus ((conv=>lhs;whnf);(first|done|fail))))|((with_reducible apply p_asg);(focus ((conv=>lhs;whnf);(first|done|fail))))|((with_reducible apply p_len);(focus exact rfl))|((with_reducible apply p_lss);(focus exact rfl);(focus exact rfl))|((with_reducible apply p_leq);(focus exact rfl);(focus exact rfl))|((with_reducible apply p_gtr);(focus exact rfl);(focus exact rfl))|((with_reducible apply p_geq);(focus exact rfl);(focus exact rfl))|((with_reducible apply p_eql);(focus exact rfl);(focus exact rfl))|((with_reducible apply p_neq);(focus exact rfl);(focus exact rfl))|((with_reducible apply p_not);(focus exact rfl))|((with_reducible apply p_pickT);(focus exact rfl);(focus ((conv=>lhs;whnf);(first|done|fail))))|((with_reducible apply p_pickF);(focus exact rfl);(focus ((conv=>lhs;whnf);(first|done|fail))))|((with_reducible apply p_extract);(focus exact rfl);(focus ((conv=>lhs;whnf);(first|done|fail))))|((with_reducible apply p_fieldA);(focus exact rfl))|((with_reducible apply p_field1);(focus exact rfl);(focus ((conv=>lhs;whnf);(first|done|fail))))|((with_reducible apply p_fieldN);(focus exact rfl);(focus ((conv=>lhs;whnf);(first|done|fail))))|((with_reducible apply p_iface);(focus ((conv=>lhs;whnf);(first|done|fail))))|((with_reducible apply p_tassert);(focus exact rfl))|((with_reducible apply p_nilck);(focus exact rfl))|((with_reducible apply p_nilckF);(focus exact rfl))|with_reducible exact p_lenArr|((with_reducible apply p_idxK);(focus exact rfl);(focus exact rfl);(focus exact rfl))|((with_reducible apply p_idxN);(focus exact rfl);(focus exact rfl);(focus ((omega);(first|done|fail))))|((with_reducible apply p_idx);(focus exact rfl);(focus exact rfl);(focus ((omega);(first|done|fail)));(focus ((omega);(first|done|fail))))|((with_reducible apply p_idxArr);(focus exact rfl);(focus exact rfl);(focus ((omega);(first|done|fail)));(focus ((omega);(first|done|fail))))|((with_reducible apply p_add);(focus exact rfl);(focus exact rfl);(focus ((omega);(first|done|fail)));(focus ((omega);(first|done|fail))))|((with_reducible apply p_sub);(focus exact rfl);(focus exact rfl);(focus ((omega);(first|done|fail)));(focus ((omega);(first|done|fail))))|((with_reducible apply p_eqlB);(focus exact rfl);(focus exact rfl);(focus ((first|assumption|kernel_rfl);(first|done|fail))))|((with_reducible apply p_neqB);(focus exact rfl);(focus exact rfl);(focus ((first|assumption|kernel_rfl);(first|done|fail))))|((with_reducible apply p_eqlS);(focus exact rfl);(focus exact rfl))|((with_reducible apply p_neqS);(focus exact rfl);(focus exact rfl))|((with_reducible apply p_mul);(focus exact rfl);(focus exact rfl);(focus ((omega);(first|done|fail)));(focus ((omega);(first|done|fail)))));(first|done|fail))))
   |((with_reducible apply d_mkf);(focus exact rfl);(focus exact rfl);(focus (repeat (first|with_reducible exact EvL.nil|((with_reducible apply EvL.cons);(conv=>lhs;whnf)))));(focus (repeat (first|with_reducible exact EvL.nil|((with_reducible apply EvL.cons);(conv=>lhs;whnf))))))
   |((with_reducible apply d_bsl);(focus exact rfl);(focus exact rfl);(focus (repeat (first|with_reducible exact Fill.nil|((with_reducible apply Fill.cons);(conv=>lhs;whnf);(conv=>lhs;whnf);(focus exact rfl);(conv=>lhs;whnf))))))
   |((with_reducible apply d_bld);(focus exact rfl);(focus exact rfl);(focus (repeat (first|with_reducible exact Fill.nil|((with_reducible apply Fill.cons);(conv=>lhs;whnf);(conv=>lhs;whnf);(focus exact rfl);(conv=>lhs;whnf))))))
   |((with_reducible apply d_box2);(focus exact rfl);(focus exact rfl);(focus ((conv=>lhs;whnf);(first|done|fail)));(focus ((conv=>lhs;whnf);(first|done|fail))))
   |((with_reducible apply d_new);(focus exact rfl);(focus exact rfl))
   |((with_reducible apply d_load);(focus exact rfl);(focus exact rfl);(focus exact rfl);(focus ((repeat (first|with_reducible exact Sel.here|with_reducible apply Sel.there|with_reducible apply Sel.app));(first|done|fail)));(focus ((conv=>lhs;whnf);(first|done|fail))))
   |((with_reducible apply d_loadN);(focus exact rfl);(focus exact rfl);(focus exact rfl);(focus ((repeat (first|with_reducible exact Sel.here|with_reducible apply Sel.there|with_reducible apply Sel.app));(first|done|fail)));(focus ((conv=>lhs;whnf);(first|done|fail))))
   |((with_reducible apply d_loadF);(focus exact rfl);(focus exact rfl);(focus exact rfl);(focus (((repeat (first|with_reducible exact List.mem_cons_self .. |with_reducible apply List.mem_cons_of_mem));first|done|fail);(first|done|fail)));(focus ((conv=>lhs;whnf);(first|done|fail))))
   |((with_reducible apply d_loadFj);(focus exact rfl);(focus exact rfl);(focus exact rfl);(focus (((repeat (first|with_reducible exact List.mem_cons_self .. |with_reducible apply List.mem_cons_of_mem));first|done|fail);(first|done|fail)));(focus ((conv=>lhs;whnf);(first|done|fail))))
   |((with_reducible apply d_loadNF);(focus exact rfl);(focus exact rfl);(focus exact rfl);(focus (((repeat (first|with_reducible exact List.mem_cons_self .. |with_reducible apply List.mem_cons_of_mem));first|done|fail);(first|done|fail)));(focus ((conv=>lhs;whnf);(first|done|fail))))
   |((with_reducible apply d_loadNFj);(focus exact rfl);(focus exact rfl);(focus exact rfl);(focus (((repeat (first|with_reducible exact List.mem_cons_self .. |with_reducible apply List.mem_cons_of_mem));first|done|fail);(first|done|fail)));(focus ((conv=>lhs;whnf);(first|done|fail))))
   |((with_reducible apply d_store2);(focus exact rfl);(focus exact rfl);(focus ((conv=>lhs;whnf);(first|done|fail)));(focus ((conv=>lhs;whnf);(first|done|fail)));(focus exact rfl);(focus ((repeat (first|with_reducible exact Sel.here|with_reducible apply Sel.there|with_reducible apply Sel.app));(first|done|fail)));(focus ((conv=>lhs;whnf);(first|done|fail))))
   |((with_reducible apply d_lenF);(focus exact rfl);(focus exact rfl);(focus ((conv=>lhs;whnf);(first|done|fail)));(focus (((repeat (first|with_reducible exact List.mem_cons_self .. |with_reducible apply List.mem_cons_of_mem));first|done|fail);(first|done|fail))))
   |((with_reducible apply d_lenA);(focus exact rfl);(focus exact rfl);(focus ((conv=>lhs;whnf);(first|done|fail)));(focus ((repeat (first|with_reducible exact Sel.here|with_reducible apply Sel.there|with_reducible apply Sel.app));(first|done|fail))))
   |((with_reducible apply d_pR (re:=_::_));(focus exact rfl);(focus exact rfl);(focus ((first|((with_reducible apply p_mv);(focus ((conv=>lhs;whnf);(first|done|fail))))|((with_reducible apply p_asg);(focus ((conv=>lhs;whnf);(first|done|fail))))|((with_reducible apply p_len);(focus exact rfl))|((with_reducible apply p_lss);(focus exact rfl);(focus exact rfl))|((with_reducible apply p_leq);(focus exact rfl);(focus exact rfl))|((with_reducible apply p_gtr);(focus exact rfl);(focus exact rfl))|((with_reducible apply p_geq);(focus exact rfl);(focus exact rfl))|((with_reducible apply p_eql);(focus exact rfl);(focus exact rfl))|((with_reducible apply p_neq);(focus exact rfl);(focus exact rfl))|((with_reducible apply p_not);(focus exact rfl))|((with_reducible apply p_pickT);(focus exact rfl);(focus ((conv=>lhs;whnf);(first|done|fail))))|((with_reducible apply p_pickF);(focus exact rfl);(focus ((conv=>lhs;whnf);(first|done|fail))))|((with_reducible apply p_extract);(focus exact rfl);(focus ((conv=>lhs;whnf);(first|done|fail))))|((with_reducible apply p_fieldA);(focus exact rfl))|((with_reducible apply p_field1);(focus exact rfl);(focus ((conv=>lhs;whnf);(first|done|fail))))|((with_reducible apply p_fieldN);(focus exact rfl);(focus ((conv=>lhs;whnf);(first|done|fail))))|((with_reducible apply p_iface);(focus ((conv=>lhs;whnf);(first|done|fail))))|((with_reducible apply p_tassert);(focus exact rfl))|((with_reducible apply p_nilck);(focus exact rfl))|((with_reducible apply p_nilckF);(focus exact rfl))|with_reducible exact p_lenArr|((with_reducible apply p_idxK);(focus exact rfl);(focus exact rfl);(focus exact rfl))|((with_reducible apply p_idxN);(focus exact rfl);(focus exact rfl);(focus ((omega);(first|done|fail))))|((with_reducible apply p_idx);(focus exact rfl);(focus exact rfl);(focus ((omega);(first|done|fail)));(focus ((omega);(first|done|fail))))|((with_reducible apply p_idxArr);(focus exact rfl);(focus exact rfl);(focus ((omega);(first|done|fail)));(focus ((omega);(first|done|fail))))|((with_reducible apply p_add);(focus exact rfl);(focus exact rfl);(focus ((omega);(first|done|fail)));(focus ((omega);(first|done|fail))))|((with_reducible apply p_sub);(focus exact rfl);(focus exact rfl);(focus ((omega);(first|done|fail)));(focus ((omega);(first|done|fail))))|((with_reducible apply p_eqlB);(focus exact rfl);(focus exact rfl);(focus ((first|assumption|kernel_rfl);(first|done|fail))))|((with_reducible apply p_neqB);(focus exact rfl);(focus exact rfl);(focus ((first|assumption|kernel_rfl);(first|done|fail))))|((with_reducible apply p_eqlS);(focus exact rfl);(focus exact rfl))|((with_reducible apply p_neqS);(focus exact rfl);(focus exact rfl))|((with_reducible apply p_mul);(focus exact rfl);(focus exact rfl);(focus ((omega);(first|done|fail)));(focus ((omega);(first|done|fail)))));(first|done|fail)));(focus ((repeat (first|exact same_nil|refine same_load rfl (by repeat (first|with_reducible exact Sel.here|with_reducible apply Sel.there|with_reducible apply Sel.app)) (by first|exact rfl|(conv=>lhs;whnf)) rfl ?_|refine same_loadF rfl (by(repeat (first|with_reducible exact List.mem_cons_self .. |with_reducible apply List.mem_cons_of_mem));first|done|fail) (by first|exact rfl|(conv=>lhs;whnf)) rfl ?_|refine same_loadFj rfl (by(repeat (first|with_reducible exact List.mem_cons_self .. |with_reducible apply List.mem_cons_of_mem));first|done|fail) (by first|exact rfl|(conv=>lhs;whnf)) rfl ?_|refine same_loadN rfl (by repeat (first|with_reducible exact Sel.here|with_reducible apply Sel.there|with_reducible apply Sel.app)) (by first|exact rfl|(conv=>lhs;whnf)) rfl ?_|refine same_loadNF rfl (by(repeat (first|with_reducible exact List.mem_cons_self .. |with_reducible apply List.mem_cons_of_mem));first|done|fail) (by first|exact rfl|(conv=>lhs;whnf)) rfl ?_|refine same_loadNFj rfl (by(repeat (first|with_reducible exact List.mem_cons_self .. |with_reducible apply List.mem_cons_of_mem));first|done|fail) (by first|exact rfl|(conv=>lhs;whnf)) rfl ?_));(first|done|fail))))
   |((with_reducible apply d_storeR (re:=_::_));(focus exact rfl);(focus exact rfl);(focus ((conv=>lhs;whnf);(first|done|fail)));(focus ((conv=>lhs;whnf);(first|done|fail)));(focus exact rfl);(focus ((repeat (first|with_reducible exact Sel.here|with_reducible apply Sel.there|with_reducible apply Sel.app));(first|done|fail)));(focus ((conv=>lhs;whnf);(first|done|fail)));(focus ((repeat (first|exact same_nil|refine same_load rfl (by repeat (first|with_reducible exact Sel.here|with_reducible apply Sel.there|with_reducible apply Sel.app)) (by first|exact rfl|(conv=>lhs;whnf)) rfl ?_|refine same_loadF rfl (by(repeat (first|with_reducible exact List.mem_cons_self .. |with_reducible apply List.mem_cons_of_mem));first|done|fail) (by first|exact rfl|(conv=>lhs;whnf)) rfl ?_|refine same_loadFj rfl (by(repeat (first|with_reducible exact List.mem_cons_self .. |with_reducible apply List.mem_cons_of_mem));first|done|fail) (by first|exact rfl|(conv=>lhs;whnf)) rfl ?_|refine same_loadN rfl (by repeat (first|with_reducible exact Sel.here|with_reducible apply Sel.there|with_reducible apply Sel.app)) (by first|exact rfl|(conv=>lhs;whnf)) rfl ?_|refine same_loadNF rfl (by(repeat (first|with_reducible exact List.mem_cons_self .. |with_reducible apply List.mem_cons_of_mem));first|done|fail) (by first|exact rfl|(conv=>lhs;whnf)) rfl ?_|refine same_loadNFj rfl (by(repeat (first|with_reducible exact List.mem_cons_self .. |with_reducible apply List.mem_cons_of_mem));first|done|fail) (by first|exact rfl|(conv=>lhs;whnf)) rfl ?_));(first|done|fail))))
   |fail)
  |((with_reducible apply Red.all);intro _)
  |with_reducible apply Red.imp)
 with_reducible exact Red.refl _):G:=r.h x
end Go.Ideal
namespace Go.Ideal
variable {P:Program}
section
variable {B:List Nat} {w0:Wd} {kl kl' klr k1 k2:List OA} {F:List zJ} {K:KO} {n:Nat} {l:List (Nat×Value)} {D:List Deferred} {pm:Option FrameMode} {ro:Option Nat} {Q:IH→Prop} {ds:List Tmp} {rest:List zQ} {d:Nat} {g:Option (Tmp×Bool)}
end
end Go.Ideal
