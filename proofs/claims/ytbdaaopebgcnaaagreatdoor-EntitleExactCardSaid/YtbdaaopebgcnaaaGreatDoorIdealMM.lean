/-
  The ideal machine, 61: plain data as things, with bounds.
-/
import Derived.Test.YtbdaaopebgcnaaaGreatDoorIdealLM
set_option linter.all false
namespace Go.Ideal
open Go.ChangeShapes Go.WideShapes Go.ChangeAt Go.RowKit
variable {P:Program}
def jl{α:Type}(P:Program)(t:TypeId)(E:Enc α)(G:α->Prop):Prop:=∀(w:Wd) (H:Type) (d:DataW H) (cs:List Value),(∀i,i<w.h.next->w.z i)->gP P w.h t cs d->∃a y,cs=E.pat a y/\(∀f∈E.fs a y,f.p w)/\G a
def Dh(n:Int):Prop:= -9223372036854775808<=n/\n<9223372036854775808
def xn{α:Type}(G:α->Prop)(xs:List α):Prop:=xs.length<9223372036854775808/\∀x∈xs,G x
theorem abB{t:TypeId}(ht:P.underlying t=some (.int .i64)):jl P t ah Dh:=λw H d cs hz r=>by
 obtain⟨n,rfl,_,h⟩:=r.kJ ht;refine⟨n,(),rfl,(λf hf=>by cases hf),?_⟩;simp only[Lit.wf,IntKind.min,IntKind.max,IntKind.signed,IntKind.bits,fD,wC]at h;simp at h;exact⟨by omega,by omega⟩
theorem abC{t:TypeId}(ht:P.underlying t=some .bool):jl P t kK (λ_=>True):=λw H d cs hz r=>by
 obtain⟨n,rfl,_⟩:=r.Cm ht;exact⟨n,(),rfl,(λf hf=>by cases hf),trivial⟩
theorem AO{α:Type}{t e:TypeId}{E:Enc α}{G:α->Prop}(ht:P.underlying t=some (.slice e))(hn:P.cellsOf e=E.n)(he:jl P e E G):jl P t (bN E) (xn G):=λw H d cs hz r=>by
 rcases r.lV ht with⟨rfl,_⟩|⟨i,n,c,cells,els,rest,rfl,_,hnc,hl,hcl,hel⟩
 ·exact⟨[],_,rfl,(λf hf=>by rw[cz.1 hf];exact .inl ⟨rfl,none,0,rfl,trivial⟩),by simp,λx hx=>by cases hx⟩
 ·have hmax:maxLen=9223372036854775807:=by decide
  obtain⟨xs,hx1,hx2⟩:=Lr (p:=λk a=>(∃y,(cells.drop (k*E.n)).take E.n=E.pat a y/\∀f∈E.fs a y,f.p w)/\G a) n (λk hk=>by
   have hk':k<els.length:=by omega
   have:=hel k els[k] (bB hk');rw[hn]at this;obtain⟨a,y,q1,q2,q3⟩:=he w H _ _ hz this;exact⟨a,⟨y,q1,q2⟩,q3⟩)
  refine⟨xs,_,rfl,λf hf=>?_,by omega,λx hx=>?_⟩
  ·rw[cz.1 hf];rcases hcl with h0|hcl
   ·left;have:xs=[]:=qM.1 (by omega);exact⟨this,some ⟨i,0,some 0⟩,c,by rw[h0],Or.inl rfl⟩
   ·right;refine⟨i,0,0,c,cells,⟨by rw[hx1],by rw[hx1];exact hnc.1,.inl rfl⟩,⟨hz i hcl.1,hcl.2⟩,λk x hk=>?_⟩;obtain⟨⟨y,q1,q2⟩,_⟩:=hx2 k x hk;refine⟨y,λj u hj=>?_,q2⟩;rw[<- q1,qN]at hj;split at hj
    ·rw[jf]at hj;rw[bG];exact hj
    ·cases hj
  ·obtain⟨k,hk⟩:=qI hx;exact(hx2 k x hk).2
inductive yN(P:Program):{α:Type}->List Field->Enc α->(α->Prop)->Prop
 |nil:yN P [] Q7 (λ_=>True)
 |cons {α β:Type} {f:Field} {fs:List Field} {E1:Enc α} {E2:Enc β} {G1:α->Prop} {G2:β->Prop} (h:jl P f.type E1 G1) (hn:P.cellsOf f.type=E1.n) (t:yN P fs E2 G2):yN P (f::fs) (Q6 E1 E2) (λx=>G1 x.1/\G2 x.2)
theorem yN.GA{w:Wd}{H:Type}(hz:∀i,i<w.h.next->w.z i):∀{α:Type} {fs:List Field} {E:Enc α} {G:α->Prop},yN P fs E G->∀(o0:Nat) (cs:List Value) (ds:List (DataW H)),cs.length=(fs.map λf=>P.cellsOf f.type).sum->ds.length=fs.length->
 fs.map (·.offset)=sums o0 (fs.map λf=>P.cellsOf f.type)->(∀(j:Nat) f d,fs[j]? =some f->ds[j]? =some d->gP P w.h f.type ((cs.drop (f.offset - o0)).take (P.cellsOf f.type)) d)->∃a y,cs=E.pat a y/\(∀f∈E.fs a y,f.p w)/\G a
 |_,_,_,_,.nil,o0,cs,ds,h1,h2,h3,h4=>⟨(),(),qM.1 (by simpa using h1),(λf hf=>by cases hf),trivial⟩
 |_,_,_,_,.cons (f:=f) (fs:=fs) (E1:=E1) (E2:=E2) h hn t,o0,cs,ds,h1,h2,h3,h4=>by
  match ds,h2 with
  |d::ds,h2=>
   simp only[lK,List.sum_cons,sums,zw]at h1 h3;obtain⟨ho,h3⟩:=h3;have r0:=h4 0 f d rfl rfl;rw[ho,qc,sj]at r0;obtain⟨a,y,q1,q2,q3⟩:=h w H d _ hz r0;obtain⟨b,z,u1,u2,u3⟩:=yN.GA hz t (o0+P.cellsOf f.type) (cs.drop (P.cellsOf f.type)) ds (by rw[iZ];omega) (by simpa using h2) h3 (λj g e hg he=>by
    have:=h4 (j+1) g e hg he;rw[List.drop_drop];have hle:o0+P.cellsOf f.type<=g.offset:=by
     have hj:(fs.map (·.offset))[j]? =some g.offset:=by rw[bU,hg];rfl
     rw[h3]at hj;have hs:(fs.map λf=>P.cellsOf f.type)[j]? =some (P.cellsOf g.type):=by rw[bU,hg];rfl
     exact(xg _ ([]:List Value) (o0+P.cellsOf f.type) j _ _ hj hs).2
    rw[show P.cellsOf f.type+(g.offset - (o0+P.cellsOf f.type))=g.offset - o0 by omega];exact this)
   refine⟨(a,b),(y,z),?_,?_,q3,u3⟩
   ·show cs=E1.pat a y++E2.pat b z;rw[<- q1,<- u1,yl]
   ·intro g hg;rcases gF.1 hg with hg|hg
    ·exact q2 g hg
    ·exact u2 g hg
theorem Di{α:Type}{t:TypeId}{fs:Array Field}{E:Enc α}{G:α->Prop}(ht:P.underlying t=some (.struct fs))(ho:fs.toList.map (·.offset)=sums 0 (fs.toList.map λf=>P.cellsOf f.type))
 (hs:P.cellsOf t=(fs.toList.map λf=>P.cellsOf f.type).sum) (h:yN P fs.toList E G):jl P t E G:=λw H d cs hz r=>by
 obtain⟨ds,_,h1,h2,h3⟩:=r.aav ht;refine h.GA hz 0 cs ds (by rw[h1,hs]) (by simpa using h2) ho λj f d hf hd=>?_;rw[qb];exact h3 j f d (by rw[<- uT];exact hf) hd
theorem jl.conv{α β:Type}{t:TypeId}{E:Enc α}{E':Enc β}{G:α->Prop}{G':β->Prop}(h:jl P t E G)(hc:∀a y,G a->∃b z,E.pat a y=E'.pat b z/\E.fs a y=E'.fs b z/\G' b):jl P t E' G':=λw H d cs hz r=>by
 obtain⟨a,y,q1,q2,q3⟩:=h w H d cs hz r;obtain⟨b,z,e1,e2,e3⟩:=hc a y q3;exact⟨b,z,by rw[q1,e1],(λf hf=>q2 f (by rw[e2];exact hf)),e3⟩
section
variable {H:Type}
theorem uA.Lv{α:Type}{w:Wd}{t:TypeId}{v:Value}{d:DataW H}{E:Enc α}{G:α->Prop}(h:uA P w t v d)(hz:∀i,i<w.h.next->w.z i)(ha:iC P t=true)(hr:jl P t E G):∃a y,v=.agg ⟨E.pat a y⟩/\(∀f∈E.fs a y,f.p w)/\G a:=by
 obtain⟨cs,r,⟨_,e⟩|⟨e,_⟩⟩:=h
 ·obtain⟨a,y,rfl,q⟩:=hr w H d cs hz r;exact⟨a,y,e,q⟩
 ·rw[ha]at e;cases e
theorem uA.oneG{α:Type}{w:Wd}{t:TypeId}{v:Value}{d:DataW H}{E:Enc α}{G:α->Prop}(h:uA P w t v d)(hz:∀i,i<w.h.next->w.z i)(ha:iC P t=false)(hr:jl P t E G):∃a y,E.pat a y=[v]/\(∀f∈E.fs a y,f.p w)/\G a:=by
 obtain⟨cs,r,⟨e,_⟩|⟨_,e⟩⟩:=h
 ·rw[ha]at e;cases e
 ·obtain⟨a,y,q0,q⟩:=hr w H d cs hz r;exact⟨a,y,by rw[<- q0,e],q⟩
end
end Go.Ideal
namespace Go.Ideal
variable {P:Program}
theorem ai.at{α:Type}{a:α}:∀{l:List α} {k:Nat},l[k]? =some a->ai a l (l.eraseIdx k)
 |[],k,h=>by simp at h
 |b::l,0,h=>by
  simp at h;subst h;exact .here
 |b::l,k+1,h=>.there (ai.at (l:=l) (k:=k) (by simpa using h))
section
variable {B:List Nat} {w0:Wd} {kl kl' bE k1 k2:List OA} {F:List aD} {K:KO} {n:Nat} {l:List (Nat×Value)} {D:List Deferred} {pm:Option FrameMode} {ro:Option Nat} {Q:IH->Prop}
end
end Go.Ideal
namespace Go.Ideal
end Go.Ideal
namespace Go.Ideal
variable {P:Program}
section
variable {B:List Nat} {w0:Wd} {kl kl' bE k1 k2:List OA} {F:List aD} {K:KO} {n:Nat} {l:List (Nat×Value)} {D:List Deferred} {pm:Option FrameMode} {ro:Option Nat} {Q:IH->Prop}
section
variable {X:Type} {n2:Nat} {D2:List Deferred} {pm2:Option FrameMode} {ro2:Option Nat} {B2:List Nat} {w2:Wd} {L:X->List (Nat×Value)} {KL:X->List OA} {FF:X->List aD} {inv:X->Prop} {l0:List (Nat×Value)} {F0:List aD}
end
end
end Go.Ideal
namespace Go.Ideal
variable {P:Program}
theorem Dj{n k:Nat}(h:k<=n):upTo n (.int .i64 (k:Int))=some k:=by
 show cond (Nat.ble k n) (some k) none=_;rw[show Nat.ble k n=true from by rw[nM];exact h];rfl
section
variable {B:List Nat} {w0:Wd} {kl kl' bE k1 k2:List OA} {F:List aD} {K:KO} {n:Nat} {l:List (Nat×Value)} {D:List Deferred} {pm:Option FrameMode} {ro:Option Nat} {Q:IH->Prop} {ds:List Tmp} {rest:List aW} {d:Nat} {g:Option (Tmp×Bool)}
theorem Rf{α:Type}{E:Enc α}{v:Value}{xs:List α}{w:Wd}(hf:(ae E v xs).p w){a b:Nat}(hab:a<=b)(hb:b<=xs.length){size:Nat}(hz:E.n=size){x:Operand}{ρ:Operand->Value}(hx:ρ x=v){uE uF:Option Operand}
 (hbd:∀c,xs.length<=c->bounds? xs.length c (fF ρ uE) (fF ρ uF) none=some (a,b,c)):
 ∃u,(au.nQ size x uE uF none).run P ρ w.h=some (u,w.h)/\(ae E u ((xs.drop a).take (b - a))).p w/\∃ad m,u=.slice ad (b - a) m:=by
 subst hx hz;have hlen:((xs.drop a).take (b - a)).length=b - a:=by rw[cB,iZ];omega
 have h3:fF ρ none=none:=rfl;rcases hf with⟨rfl,ad,c,e,hg⟩|⟨i,o,f,c,cells,⟨e,hc,hf⟩,q2,q3⟩
 ·have hb0:b=0:=by simpa using hb
  subst hb0;have ha0:a=0:=by omega
  subst ha0;have hbd:=hbd c (cu _);rw[rZ]at hbd;match ad,hg with
  |none,_=>exact⟨.slice none 0 c,by simp only[au.run,e,h3,hbd];rfl,.inl ⟨by simp,_,_,rfl,trivial⟩,_,_,rfl⟩
  |some ⟨i,o,some 0⟩,_=>exact⟨.slice (some ⟨i,o,some 0⟩) 0 c,by
    simp only[au.run,e,h3,hbd];show some (Value.slice (ul i (Nat.add o (Nat.mul 0 E.n))) (0 - 0) (c - 0),w.h)=_;rw[show Nat.mul 0 E.n=0 from oQ _];rfl,.inl ⟨by simp,_,_,rfl,.inl rfl⟩,_,_,rfl⟩
  |some ⟨i,o,some (k+1)⟩,hg=>
   have hk:k+1=E.n:=by
    rcases hg with h|h
    ·cases h
    ·exact h
   exact⟨.slice (some ⟨i,o,some (k+1)⟩) 0 c,by
    simp only[au.run,e,h3,hbd];show cond (Nat.beq (Nat.succ k) E.n) (some (Value.slice (some ⟨i,Nat.add o (Nat.mul 0 E.n),some (Nat.succ k)⟩) (0 - 0) (c - 0),w.h)) none=_;rw[show Nat.beq (Nat.succ k) E.n=true by rw[show Nat.succ k=E.n from hk];exact wF _,show Nat.mul 0 E.n=0 from oQ _];rfl,.inl ⟨by simp,_,_,rfl,.inr hk⟩,_,_,rfl⟩
 ·have hbd:=hbd c hc;have hel:∀(k:Nat) y,((xs.drop a).take (b - a))[k]? =some y->∃z,(∀(j:Nat) u,(E.pat y z)[j]? =some u->cells[(o+a*E.n)+k*E.n+j]? =some u)/\∀f∈E.fs y z,f.p w:=λk y hk=>by
   rw[qN]at hk;split at hk
   ·rw[jf]at hk;obtain⟨z,u1,u2⟩:=q3 (a+k) y hk;refine⟨z,λj u hj=>?_,u2⟩;have:=u1 j u hj;rw[lN]at this;rw[show o+a*E.n+k*E.n+j=o+(a*E.n+k*E.n)+j by omega];exact this
   ·cases hk
  match f,hf with
  |0,_=>exact⟨.slice (some ⟨i,o+a*E.n,some 0⟩) (b - a) (c - a),by
    simp only[au.run,e,h3,hbd];show some (Value.slice (ul i (Nat.add o (Nat.mul a E.n))) (b - a) (c - a),w.h)=_;rfl,.inr ⟨i,o+a*E.n,0,c - a,cells,⟨by rw[hlen],by omega,.inl rfl⟩,q2,hel⟩,_,_,rfl⟩
  |k+1,hf=>
   have hk:k+1=E.n:=by
    rcases hf with h|h
    ·cases h
    ·exact h
   exact⟨.slice (some ⟨i,o+a*E.n,some (k+1)⟩) (b - a) (c - a),by
    simp only[au.run,e,h3,hbd];show cond (Nat.beq (Nat.succ k) E.n) (some (Value.slice (some ⟨i,Nat.add o (Nat.mul a E.n),some (Nat.succ k)⟩) (b - a) (c - a),w.h)) none=_;rw[show Nat.beq (Nat.succ k) E.n=true by rw[show Nat.succ k=E.n from hk];exact wF _];rfl,.inr ⟨i,o+a*E.n,k+1,c - a,cells,⟨by rw[hlen],by omega,.inr hk⟩,q2,hel⟩,_,_,rfl⟩
theorem AP{α:Type}(E:Enc α){x hi:Operand}{v:Value}{xs:List α}{size:Nat}(b:Nat)(hb:b<=xs.length)
 (next:∀ad m,R (λh=>aA P ds rest (act n ((d,.slice ad b m)::l) D pm ro) h K) B w0 kl (ae E (.slice ad b m) (xs.take b)::F))
 (hx:ev l x=v:=by conv=>lhs;whnf) (hhi:ev l hi=.int .i64 (b:Int):=by rfl) (hf:ae E v xs∈F:=by exact nA) (hz:E.n=size:=by rfl) (hn:Nat.blt d n=true:=by rfl) (hg:bH l g=true:=by rfl):
 R (λh=>aA P ds (⟨⟨some d,g,.nQ size x none (some hi) none⟩,[]⟩::rest) (act n l D pm ro) h K) B w0 kl F:=λw s=>by
 obtain⟨u,h1,h2,ad,m,e⟩:=Rf (P:=P) (s.facts _ hf) (cu b) hb hz hx (uE:=none) (uF:=some hi) (λc hc=>by
  show bounds? _ _ none (some (ev l hi)) none=_;rw[hhi];show(match upTo c (.int .i64 (b:Int))with|none=>none|some h=>match some 0 with|none=>none|some l=>some (l,h,c))=_;rw[Dj (by omega)])
 subst e;rw[qb]at h1 h2;refine iQ hn hg h1 (next ad m w ?_);rw[sj]at h2;exact(s.add (F':=[ae E (.slice ad b m) (xs.take b)]) (λf hf=>by rw[cz.1 hf];exact h2))
theorem abD{α:Type}(E:Enc α){x lo:Operand}{v:Value}{xs:List α}{size:Nat}(a:Nat)(ha:a<=xs.length)
 (next:∀ad m,R (λh=>aA P ds rest (act n ((d,.slice ad (xs.length - a) m)::l) D pm ro) h K) B w0 kl (ae E (.slice ad (xs.length - a) m) (xs.drop a)::F))
 (hx:ev l x=v:=by conv=>lhs;whnf) (hlo:ev l lo=.int .i64 (a:Int):=by rfl) (hf:ae E v xs∈F:=by exact nA) (hz:E.n=size:=by rfl) (hn:Nat.blt d n=true:=by rfl) (hg:bH l g=true:=by rfl):
 R (λh=>aA P ds (⟨⟨some d,g,.nQ size x (some lo) none none⟩,[]⟩::rest) (act n l D pm ro) h K) B w0 kl F:=λw s=>by
 obtain⟨u,h1,h2,ad,m,e⟩:=Rf (P:=P) (s.facts _ hf) ha (aG _) hz hx (uE:=some lo) (uF:=none) (λc hc=>by
  show bounds? _ _ (some (ev l lo)) none none=_;rw[hlo];show(match upTo xs.length (.int .i64 (a:Int))with|none=>none|some l=>some (l,xs.length,c))=_;rw[Dj ha])
 subst e;refine iQ hn hg h1 (next ad m w ?_);rw[nO (by rw[iZ];exact aG _)]at h2;exact(s.add (F':=[ae E (.slice ad (xs.length - a) m) (xs.drop a)]) (λf hf=>by rw[cz.1 hf];exact h2))
theorem abE{e:TypeId}{bytes b:Nat}{s x:Operand}{v:Value}{xs:List Int}(hne:0<xs.length)(hm:xs.length*bytes<=1073741824/\xs.length<=1073741824)
 (next:∀b',R (λh=>aA P ds rest (act n ((d,.slice (some ⟨b',0,some 1⟩) xs.length xs.length)::l) D pm ro) h K) B w0 (pt b' (.cells (xs.map (.int .i64)))::kl') F)
 (hs:ev l s=.slice (some ⟨b,0,some 0⟩) 0 0:=by rfl) (hx:ev l x=v:=by conv=>lhs;whnf) (hf:ae ah v xs∈F:=by exact nA) (hk:ai (pt b (.cells [])) kl kl':=by exact gQ) (hn:Nat.blt d n=true:=by rfl) (hg:bH l g=true:=by rfl):
 R (λh=>aA P ds (⟨⟨some d,g,.append e 1 bytes s x⟩,[]⟩::rest) (act n l D pm ro) h K) B w0 kl F:=λw st=>by
 have st1:=st.fC hk;have hat:At w.h b (.cells []):=st.at_ hk;obtain⟨k,hk'⟩:∃k,xs.length=k+1:=⟨xs.length - 1,by omega⟩
 rcases st.facts _ hf with⟨rfl,_⟩|⟨i,o,f,c,cells,⟨e1,hc⟩,q2,q3⟩
 ·simp at hne
 have hcells:∀j,j<xs.length->cells[o+j]? =(xs.map (Value.int .i64))[j]?:=λj hj=>by
  obtain⟨y,u1,_⟩:=q3 j xs[j] (bB hj);have:=u1 0 (.int .i64 xs[j]) rfl;rw[bU,bB hj];simpa[ah]using this
 have hlen:o+xs.length<=cells.length:=by
  have:=hcells (xs.length - 1) (by omega);have hx0:xs[xs.length - 1]? =some (xs[xs.length - 1]'(by omega)):=bB _;rw[bU,hx0]at this;have:=(dU.1 this).1;omega
 have hread:w.h.dV i o (xs.length*1)=some (xs.map (.int .i64)):=by
  rw[q2.cells.dV,jO,jP,fV,if_pos (by rw[iZ];omega)];congr 1;apply kz;intro j;rw[qN];by_cases hj:j<xs.length
  ·rw[if_pos hj,jf];exact hcells j hj
  ·rw[if_neg hj,jg (by rw[bI];omega)]
 refine C9 (b:=b) (o:=0) (m:=0) (k:=k) (f:=some 0) (old:=[]) (xs:=xs.map (.int .i64)) hn hg hs (by rw[hx,e1,hk'];rfl) ?_ ?_ (.inl rfl) ?_ λh' mv=>?_
 ·rw[hx,e1,<- hk'];exact hread
 ·rw[hat.c.dV];rfl
 ·rw[bG,<- hk'];omega
 obtain⟨w',rfl,dO,pG⟩:=st1.move mv;rw[dI]at dO;have:=next w.h.next w' dO
 rw[hk']at this;rw[bG];exact this
end
