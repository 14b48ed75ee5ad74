/-
  The ideal machine, 61: plain data as things, with bounds.
-/
import Derived.Test.YtbdaaopebgcnaaaGreatDoorIdealLM
set_option linter.all false
namespace Go.Ideal
open Go.ChangeShapes Go.WideShapes Go.ChangeAt Go.RowKit
variable {P:Program}
def jc{α:Type}(P:Program)(t:TypeId)(E:Enc α)(G:α->Prop):Prop:=∀(w:Wd) (H:Type) (d:DataW H) (cs:List Value),(∀i,i<w.h.next->w.z i)->fQ P w.h t cs d->∃a y,cs=E.pat a y/\(∀f∈E.fs a y,f.p w)/\G a
def Bt(n:Int):Prop:= -9223372036854775808<=n/\n<9223372036854775808
def ze{α:Type}(G:α->Prop)(xs:List α):Prop:=xs.length<9223372036854775808/\∀x∈xs,G x
theorem YO{t:TypeId}(ht:P.underlying t=some (.int .i64)):jc P t az Bt:=λw H d cs hz r=>by
 obtain⟨n,rfl,_,h⟩:=r.j4 ht;refine⟨n,(),rfl,(λf hf=>by cases hf),?_⟩;simp only[Lit.wf,IntKind.min,IntKind.max,IntKind.signed,IntKind.bits,fo,ww]at h;simp at h;exact⟨by omega,by omega⟩
theorem YP{t:TypeId}(ht:P.underlying t=some .bool):jc P t mO (λ_=>True):=λw H d cs hz r=>by
 obtain⟨n,rfl,_⟩:=r.Ap ht;exact⟨n,(),rfl,(λf hf=>by cases hf),trivial⟩
theorem Bu{α:Type}{t e:TypeId}{E:Enc α}{G:α->Prop}(ht:P.underlying t=some (.slice e))(hn:P.cellsOf e=E.n)(he:jc P e E G):jc P t (bC E) (ze G):=λw H d cs hz r=>by
 rcases r.kJ ht with⟨rfl,_⟩|⟨i,n,c,cells,els,rest,rfl,_,hnc,hl,hcl,hel⟩
 ·exact⟨[],_,rfl,(λf hf=>by rw[cB.1 hf];exact .inl ⟨rfl,none,0,rfl,trivial⟩),by simp,λx hx=>by cases hx⟩
 ·have hmax:maxLen=9223372036854775807:=by decide
  obtain⟨xs,hx1,hx2⟩:=I6 (p:=λk a=>(∃y,(cells.drop (k*E.n)).take E.n=E.pat a y/\∀f∈E.fs a y,f.p w)/\G a) n (λk hk=>by
   have hk':k<els.length:=by omega
   have:=hel k els[k] (bH hk');rw[hn]at this;obtain⟨a,y,q1,q2,q3⟩:=he w H _ _ hz this;exact⟨a,⟨y,q1,q2⟩,q3⟩)
  refine⟨xs,_,rfl,λf hf=>?_,by omega,λx hx=>?_⟩
  ·rw[cB.1 hf];rcases hcl with h0|hcl
   ·left;have:xs=[]:=qc.1 (by omega);exact⟨this,some ⟨i,0,some 0⟩,c,by rw[h0],Or.inl rfl⟩
   ·right;refine⟨i,0,0,c,cells,⟨by rw[hx1],by rw[hx1];exact hnc.1,.inl rfl⟩,⟨hz i hcl.1,hcl.2⟩,λk x hk=>?_⟩;obtain⟨⟨y,q1,q2⟩,_⟩:=hx2 k x hk;refine⟨y,λj u hj=>?_,q2⟩;rw[<- q1,qd]at hj;split at hj
    ·rw[iV]at hj;rw[dB];exact hj
    ·cases hj
  ·obtain⟨k,hk⟩:=oM hx;exact(hx2 k x hk).2
inductive xe(P:Program):{α:Type}->List Field->Enc α->(α->Prop)->Prop
 |nil:xe P [] Oe (λ_=>True)
 |cons {α β:Type} {f:Field} {fs:List Field} {E1:Enc α} {E2:Enc β} {G1:α->Prop} {G2:β->Prop} (h:jc P f.type E1 G1) (hn:P.cellsOf f.type=E1.n) (t:xe P fs E2 G2):xe P (f::fs) (Od E1 E2) (λx=>G1 x.1/\G2 x.2)
theorem xe.Eu{w:Wd}{H:Type}(hz:∀i,i<w.h.next->w.z i):∀{α:Type} {fs:List Field} {E:Enc α} {G:α->Prop},xe P fs E G->∀(o0:Nat) (cs:List Value) (ds:List (DataW H)),cs.length=(fs.map λf=>P.cellsOf f.type).sum->ds.length=fs.length->
 fs.map (·.offset)=sums o0 (fs.map λf=>P.cellsOf f.type)->(∀(j:Nat) f d,fs[j]? =some f->ds[j]? =some d->fQ P w.h f.type ((cs.drop (f.offset - o0)).take (P.cellsOf f.type)) d)->∃a y,cs=E.pat a y/\(∀f∈E.fs a y,f.p w)/\G a
 |_,_,_,_,.nil,o0,cs,ds,h1,h2,h3,h4=>⟨(),(),qc.1 (by simpa using h1),(λf hf=>by cases hf),trivial⟩
 |_,_,_,_,.cons (f:=f) (fs:=fs) (E1:=E1) (E2:=E2) h hn t,o0,cs,ds,h1,h2,h3,h4=>by
  match ds,h2 with
  |d::ds,h2=>
   simp only[lc,List.sum_cons,sums,xS]at h1 h3;obtain⟨ho,h3⟩:=h3;have r0:=h4 0 f d rfl rfl;rw[ho,uE,qi]at r0;obtain⟨a,y,q1,q2,q3⟩:=h w H d _ hz r0;obtain⟨b,z,u1,u2,u3⟩:=xe.Eu hz t (o0+P.cellsOf f.type) (cs.drop (P.cellsOf f.type)) ds (by rw[iY];omega) (by simpa using h2) h3 (λj g e hg he=>by
    have:=h4 (j+1) g e hg he;rw[List.drop_drop];have hle:o0+P.cellsOf f.type<=g.offset:=by
     have hj:(fs.map (·.offset))[j]? =some g.offset:=by rw[cK,hg];rfl
     rw[h3]at hj;have hs:(fs.map λf=>P.cellsOf f.type)[j]? =some (P.cellsOf g.type):=by rw[cK,hg];rfl
     exact(u6 _ ([]:List Value) (o0+P.cellsOf f.type) j _ _ hj hs).2
    rw[show P.cellsOf f.type+(g.offset - (o0+P.cellsOf f.type))=g.offset - o0 by omega];exact this)
   refine⟨(a,b),(y,z),?_,?_,q3,u3⟩
   ·show cs=E1.pat a y++E2.pat b z;rw[<- q1,<- u1,xU]
   ·intro g hg;rcases fI.1 hg with hg|hg
    ·exact q2 g hg
    ·exact u2 g hg
theorem Bv{α:Type}{t:TypeId}{fs:Array Field}{E:Enc α}{G:α->Prop}(ht:P.underlying t=some (.struct fs))(ho:fs.toList.map (·.offset)=sums 0 (fs.toList.map λf=>P.cellsOf f.type))
 (hs:P.cellsOf t=(fs.toList.map λf=>P.cellsOf f.type).sum) (h:xe P fs.toList E G):jc P t E G:=λw H d cs hz r=>by
 obtain⟨ds,_,h1,h2,h3⟩:=r.XG ht;refine h.Eu hz 0 cs ds (by rw[h1,hs]) (by simpa using h2) ho λj f d hf hd=>?_;rw[qg];exact h3 j f d (by rw[<- sK];exact hf) hd
theorem jc.conv{α β:Type}{t:TypeId}{E:Enc α}{E':Enc β}{G:α->Prop}{G':β->Prop}(h:jc P t E G)(hc:∀a y,G a->∃b z,E.pat a y=E'.pat b z/\E.fs a y=E'.fs b z/\G' b):jc P t E' G':=λw H d cs hz r=>by
 obtain⟨a,y,q1,q2,q3⟩:=h w H d cs hz r;obtain⟨b,z,e1,e2,e3⟩:=hc a y q3;exact⟨b,z,by rw[q1,e1],(λf hf=>q2 f (by rw[e2];exact hf)),e3⟩
section
variable {H:Type}
theorem rX.YQ{α:Type}{w:Wd}{t:TypeId}{v:Value}{d:DataW H}{E:Enc α}{G:α->Prop}(h:rX P w t v d)(hz:∀i,i<w.h.next->w.z i)(ha:gI P t=true)(hr:jc P t E G):∃a y,v=.agg ⟨E.pat a y⟩/\(∀f∈E.fs a y,f.p w)/\G a:=by
 obtain⟨cs,r,⟨_,e⟩|⟨e,_⟩⟩:=h
 ·obtain⟨a,y,rfl,q⟩:=hr w H d cs hz r;exact⟨a,y,e,q⟩
 ·rw[ha]at e;cases e
theorem rX.oneG{α:Type}{w:Wd}{t:TypeId}{v:Value}{d:DataW H}{E:Enc α}{G:α->Prop}(h:rX P w t v d)(hz:∀i,i<w.h.next->w.z i)(ha:gI P t=false)(hr:jc P t E G):∃a y,E.pat a y=[v]/\(∀f∈E.fs a y,f.p w)/\G a:=by
 obtain⟨cs,r,⟨e,_⟩|⟨_,e⟩⟩:=h
 ·rw[ha]at e;cases e
 ·obtain⟨a,y,q0,q⟩:=hr w H d cs hz r;exact⟨a,y,by rw[<- q0,e],q⟩
end
end Go.Ideal
namespace Go.Ideal
variable {P:Program}
theorem ah.at{α:Type}{a:α}:∀{l:List α} {k:Nat},l[k]? =some a->ah a l (l.eraseIdx k)
 |[],k,h=>by simp at h
 |b::l,0,h=>by
  simp at h;subst h;exact .here
 |b::l,k+1,h=>.there (ah.at (l:=l) (k:=k) (by simpa using h))
section
variable {B:List Nat} {w0:Wd} {kl kl' aW k1 k2:List OA} {F:List aB} {K:KO} {n:Nat} {l:List (Nat×Value)} {D:List Deferred} {pm:Option FrameMode} {ro:Option Nat} {Q:IH->Prop}
end
end Go.Ideal
namespace Go.Ideal
end Go.Ideal
namespace Go.Ideal
variable {P:Program}
section
variable {B:List Nat} {w0:Wd} {kl kl' aW k1 k2:List OA} {F:List aB} {K:KO} {n:Nat} {l:List (Nat×Value)} {D:List Deferred} {pm:Option FrameMode} {ro:Option Nat} {Q:IH->Prop}
section
variable {X:Type} {n2:Nat} {D2:List Deferred} {pm2:Option FrameMode} {ro2:Option Nat} {B2:List Nat} {w2:Wd} {L:X->List (Nat×Value)} {KL:X->List OA} {FF:X->List aB} {inv:X->Prop} {l0:List (Nat×Value)} {F0:List aB}
end
end
end Go.Ideal
namespace Go.Ideal
variable {P:Program}
theorem Bw{n k:Nat}(h:k<=n):upTo n (.int .i64 (k:Int))=some k:=by
 show cond (Nat.ble k n) (some k) none=_;rw[show Nat.ble k n=true from by rw[mq];exact h];rfl
section
variable {B:List Nat} {w0:Wd} {kl kl' aW k1 k2:List OA} {F:List aB} {K:KO} {n:Nat} {l:List (Nat×Value)} {D:List Deferred} {pm:Option FrameMode} {ro:Option Nat} {Q:IH->Prop} {ds:List Tmp} {rest:List aP} {d:Nat} {g:Option (Tmp×Bool)}
theorem Ou{α:Type}{E:Enc α}{v:Value}{xs:List α}{w:Wd}(hf:(ae E v xs).p w){a b:Nat}(hab:a<=b)(hb:b<=xs.length){size:Nat}(hz:E.n=size){x:Operand}{ρ:Operand->Value}(hx:ρ x=v){tN tO:Option Operand}
 (hbd:∀c,xs.length<=c->bounds? xs.length c (eO ρ tN) (eO ρ tO) none=some (a,b,c)):
 ∃u,(ai.nD size x tN tO none).run P ρ w.h=some (u,w.h)/\(ae E u ((xs.drop a).take (b - a))).p w/\∃ad m,u=.slice ad (b - a) m:=by
 subst hx hz;have hlen:((xs.drop a).take (b - a)).length=b - a:=by rw[fB,iY];omega
 have h3:eO ρ none=none:=rfl;rcases hf with⟨rfl,ad,c,e,hg⟩|⟨i,o,f,c,cells,⟨e,hc,hf⟩,q2,q3⟩
 ·have hb0:b=0:=by simpa using hb
  subst hb0;have ha0:a=0:=by omega
  subst ha0;have hbd:=hbd c (dY _);rw[qf]at hbd;match ad,hg with
  |none,_=>exact⟨.slice none 0 c,by simp only[ai.run,e,h3,hbd];rfl,.inl ⟨by simp,_,_,rfl,trivial⟩,_,_,rfl⟩
  |some ⟨i,o,some 0⟩,_=>exact⟨.slice (some ⟨i,o,some 0⟩) 0 c,by
    simp only[ai.run,e,h3,hbd];show some (Value.slice (rO i (Nat.add o (Nat.mul 0 E.n))) (0 - 0) (c - 0),w.h)=_;rw[show Nat.mul 0 E.n=0 from og _];rfl,.inl ⟨by simp,_,_,rfl,.inl rfl⟩,_,_,rfl⟩
  |some ⟨i,o,some (k+1)⟩,hg=>
   have hk:k+1=E.n:=by
    rcases hg with h|h
    ·cases h
    ·exact h
   exact⟨.slice (some ⟨i,o,some (k+1)⟩) 0 c,by
    simp only[ai.run,e,h3,hbd];show cond (Nat.beq (Nat.succ k) E.n) (some (Value.slice (some ⟨i,Nat.add o (Nat.mul 0 E.n),some (Nat.succ k)⟩) (0 - 0) (c - 0),w.h)) none=_;rw[show Nat.beq (Nat.succ k) E.n=true by rw[show Nat.succ k=E.n from hk];exact uD _,show Nat.mul 0 E.n=0 from og _];rfl,.inl ⟨by simp,_,_,rfl,.inr hk⟩,_,_,rfl⟩
 ·have hbd:=hbd c hc;have hel:∀(k:Nat) y,((xs.drop a).take (b - a))[k]? =some y->∃z,(∀(j:Nat) u,(E.pat y z)[j]? =some u->cells[(o+a*E.n)+k*E.n+j]? =some u)/\∀f∈E.fs y z,f.p w:=λk y hk=>by
   rw[qd]at hk;split at hk
   ·rw[iV]at hk;obtain⟨z,u1,u2⟩:=q3 (a+k) y hk;refine⟨z,λj u hj=>?_,u2⟩;have:=u1 j u hj;rw[lg]at this;rw[show o+a*E.n+k*E.n+j=o+(a*E.n+k*E.n)+j by omega];exact this
   ·cases hk
  match f,hf with
  |0,_=>exact⟨.slice (some ⟨i,o+a*E.n,some 0⟩) (b - a) (c - a),by
    simp only[ai.run,e,h3,hbd];show some (Value.slice (rO i (Nat.add o (Nat.mul a E.n))) (b - a) (c - a),w.h)=_;rfl,.inr ⟨i,o+a*E.n,0,c - a,cells,⟨by rw[hlen],by omega,.inl rfl⟩,q2,hel⟩,_,_,rfl⟩
  |k+1,hf=>
   have hk:k+1=E.n:=by
    rcases hf with h|h
    ·cases h
    ·exact h
   exact⟨.slice (some ⟨i,o+a*E.n,some (k+1)⟩) (b - a) (c - a),by
    simp only[ai.run,e,h3,hbd];show cond (Nat.beq (Nat.succ k) E.n) (some (Value.slice (some ⟨i,Nat.add o (Nat.mul a E.n),some (Nat.succ k)⟩) (b - a) (c - a),w.h)) none=_;rw[show Nat.beq (Nat.succ k) E.n=true by rw[show Nat.succ k=E.n from hk];exact uD _];rfl,.inr ⟨i,o+a*E.n,k+1,c - a,cells,⟨by rw[hlen],by omega,.inr hk⟩,q2,hel⟩,_,_,rfl⟩
theorem zf{α:Type}(E:Enc α){x hi:Operand}{v:Value}{xs:List α}{size:Nat}(b:Nat)(hb:b<=xs.length)
 (next:∀ad m,R (λh=>ax P ds rest (act n ((d,.slice ad b m)::l) D pm ro) h K) B w0 kl (ae E (.slice ad b m) (xs.take b)::F))
 (hx:ev l x=v:=by conv=>lhs;whnf) (hhi:ev l hi=.int .i64 (b:Int):=by rfl) (hf:ae E v xs∈F:=by exact mU) (hz:E.n=size:=by rfl) (hn:Nat.blt d n=true:=by rfl) (hg:aZ l g=true:=by rfl):
 R (λh=>ax P ds (⟨⟨some d,g,.nD size x none (some hi) none⟩,[]⟩::rest) (act n l D pm ro) h K) B w0 kl F:=λw s=>by
 obtain⟨u,h1,h2,ad,m,e⟩:=Ou (P:=P) (s.facts _ hf) (dY b) hb hz hx (tN:=none) (tO:=some hi) (λc hc=>by
  show bounds? _ _ none (some (ev l hi)) none=_;rw[hhi];show(match upTo c (.int .i64 (b:Int))with|none=>none|some h=>match some 0 with|none=>none|some l=>some (l,h,c))=_;rw[Bw (by omega)])
 subst e;rw[qg]at h1 h2;refine iD hn hg h1 (next ad m w ?_);rw[qi]at h2;exact(s.add (F':=[ae E (.slice ad b m) (xs.take b)]) (λf hf=>by rw[cB.1 hf];exact h2))
theorem YR{α:Type}(E:Enc α){x lo:Operand}{v:Value}{xs:List α}{size:Nat}(a:Nat)(ha:a<=xs.length)
 (next:∀ad m,R (λh=>ax P ds rest (act n ((d,.slice ad (xs.length - a) m)::l) D pm ro) h K) B w0 kl (ae E (.slice ad (xs.length - a) m) (xs.drop a)::F))
 (hx:ev l x=v:=by conv=>lhs;whnf) (hlo:ev l lo=.int .i64 (a:Int):=by rfl) (hf:ae E v xs∈F:=by exact mU) (hz:E.n=size:=by rfl) (hn:Nat.blt d n=true:=by rfl) (hg:aZ l g=true:=by rfl):
 R (λh=>ax P ds (⟨⟨some d,g,.nD size x (some lo) none none⟩,[]⟩::rest) (act n l D pm ro) h K) B w0 kl F:=λw s=>by
 obtain⟨u,h1,h2,ad,m,e⟩:=Ou (P:=P) (s.facts _ hf) ha (aC _) hz hx (tN:=some lo) (tO:=none) (λc hc=>by
  show bounds? _ _ (some (ev l lo)) none none=_;rw[hlo];show(match upTo xs.length (.int .i64 (a:Int))with|none=>none|some l=>some (l,xs.length,c))=_;rw[Bw ha])
 subst e;refine iD hn hg h1 (next ad m w ?_);rw[rH (by rw[iY];exact aC _)]at h2;exact(s.add (F':=[ae E (.slice ad (xs.length - a) m) (xs.drop a)]) (λf hf=>by rw[cB.1 hf];exact h2))
theorem YS{e:TypeId}{bytes b:Nat}{s x:Operand}{v:Value}{xs:List Int}(hne:0<xs.length)(hm:xs.length*bytes<=1073741824/\xs.length<=1073741824)
 (next:∀b',R (λh=>ax P ds rest (act n ((d,.slice (some ⟨b',0,some 1⟩) xs.length xs.length)::l) D pm ro) h K) B w0 (pt b' (.cells (xs.map (.int .i64)))::kl') F)
 (hs:ev l s=.slice (some ⟨b,0,some 0⟩) 0 0:=by rfl) (hx:ev l x=v:=by conv=>lhs;whnf) (hf:ae az v xs∈F:=by exact mU) (hk:ah (pt b (.cells [])) kl kl':=by exact gp) (hn:Nat.blt d n=true:=by rfl) (hg:aZ l g=true:=by rfl):
 R (λh=>ax P ds (⟨⟨some d,g,.append e 1 bytes s x⟩,[]⟩::rest) (act n l D pm ro) h K) B w0 kl F:=λw st=>by
 have st1:=st.eT hk;have hat:At w.h b (.cells []):=st.at_ hk;obtain⟨k,hk'⟩:∃k,xs.length=k+1:=⟨xs.length - 1,by omega⟩
 rcases st.facts _ hf with⟨rfl,_⟩|⟨i,o,f,c,cells,⟨e1,hc⟩,q2,q3⟩
 ·simp at hne
 have hcells:∀j,j<xs.length->cells[o+j]? =(xs.map (Value.int .i64))[j]?:=λj hj=>by
  obtain⟨y,u1,_⟩:=q3 j xs[j] (bH hj);have:=u1 0 (.int .i64 xs[j]) rfl;rw[cK,bH hj];simpa[az]using this
 have hlen:o+xs.length<=cells.length:=by
  have:=hcells (xs.length - 1) (by omega);have hx0:xs[xs.length - 1]? =some (xs[xs.length - 1]'(by omega)):=bH _;rw[cK,hx0]at this;have:=(dU.1 this).1;omega
 have hread:w.h.dL i o (xs.length*1)=some (xs.map (.int .i64)):=by
  rw[q2.cells.dL,jE,jF,jB,if_pos (by rw[iY];omega)];congr 1;apply jX;intro j;rw[qd];by_cases hj:j<xs.length
  ·rw[if_pos hj,iV];exact hcells j hj
  ·rw[if_neg hj,iX (by rw[bI];omega)]
 refine Bi (b:=b) (o:=0) (m:=0) (k:=k) (f:=some 0) (old:=[]) (xs:=xs.map (.int .i64)) hn hg hs (by rw[hx,e1,hk'];rfl) ?_ ?_ (.inl rfl) ?_ λh' mv=>?_
 ·rw[hx,e1,<- hk'];exact hread
 ·rw[hat.c.dL];rfl
 ·rw[dB,<- hk'];omega
 obtain⟨w',rfl,dG,nO⟩:=st1.move mv;rw[dw]at dG;have:=next w.h.next w' dG
 rw[hk']at this;rw[dB];exact this
end
