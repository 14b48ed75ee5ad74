/-
  Part IdealPX.
-/
import Derived.Test.YtoilpafpgndilaaGreatIdealOX
import Derived.Lib.Bytealg
import Derived.Lib.Atoi
import Derived.Lib.ConvBytes
import Derived.Shelf.SlSortCmp.WholeK
import Derived.Shelf.SlSortCmp.Whole1
set_option linter.all false
namespace Go.Ideal
structure Beyond(w w':World):Prop where
 heap:∀b,b<w.heap.size->w'.heap[b]? =w.heap[b]?
 size:w.heap.size<=w'.heap.size
 os:w'.os=w.os
 tape:w'.tape=w.tape
 output:w'.output=w.output
 drawn:w.drawn<=w'.drawn
end Go.Ideal
namespace Go.Ideal
open Go.Sort Go.Proofs Go.RowKit Go.Lib Go.Shelf
variable {P:Program}
structure El{X:Type}(β:aG)(E:Enc X)(xs:List X)(d:Wd) where
 x:X
 y:E.Y
 v:List Value
 mem:x∈xs
 rel:aW β (E.pat x y) v
 cell:(E.pat x y).all cellV=true
 fs:∀f∈E.fs x y,f.p d
end Go.Ideal
namespace Go.Ideal
variable {P:Program} {B:List Nat} {w0:Wd} {kl kl' bH:List OA} {F:List aO} {K:KO} {ds:List Tmp} {rest:List bV} {n:Nat} {l:List (Nat×Value)} {D:List Deferred} {pm:Option FrameMode} {ro:Option Nat} {d:Nat} {g:Option (Tmp×Bool)}
theorem adz{α:Type}{E:Enc α}{aC:List (α×E.Y)}{k:Nat}{p:α×E.Y}(hp:aC[k]? =some p):jf (jH (eG E aC) (k*E.n)) E.n=some (E.pat p.1 p.2):=by
 have hk:=(bq.1 hp).1;have hl:=za aC;have hm:(k+1)*E.n<=aC.length*E.n:=Nat.mul_le_mul_right _ hk;rw[ru,BL]at hm;rw[p9,qD,if_pos (by rw[sO];omega)];congr 1;apply iY;intro j;rw[sK];by_cases hj:j<E.n
 ·have hu:(E.pat p.1 p.2)[j]? =some ((E.pat p.1 p.2)[j]'(by rw[E.len];exact hj)):=bP _;rw[if_pos hj,oO,hu];exact vZ hp hu
 ·rw[if_neg hj,fO (by rw[E.len];omega)]
theorem adA{α:Type}(E:Enc α){aC:List (α×E.Y)}{k o b m:Nat}{p:α×E.Y}{x:Operand}(hp:aC[k]? =some p)(ho:o=k*E.n)
 (next:R (λh=>aH P ds rest (act n ((d,.agg ⟨E.pat p.1 p.2⟩)::l) D pm ro) h K) B w0 kl F)
 (hx:ev l x=.pointer (some ⟨b,o,none⟩):=by rfl) (hk:az (pt b (.cells (eG E aC))) kl kl':=by exact gN) (hz:E.n=m:=by rfl) (hn:Nat.blt d n=true:=by rfl) (hg:cZ l g=true:=by rfl):
 R (λh=>aH P ds (⟨⟨some d,g,.pW m x⟩,[]⟩::rest) (act n l D pm ro) h K) B w0 kl F:=by
 subst ho hz;exact(R9 hn hg hx hk (adz hp)).h next
theorem adB{α:Type}(E:Enc α){xs:List α}{b f m:Nat}{Q:IH->Prop}(h:∀aC:List (α×E.Y),aC.map (·.1)=xs->m=xs.length->(f=0\/f=E.n)->R Q B w0 (pt b (.cells (eG E aC))::kl') (pG E aC::F))
 (hk:az (ap E (.slice (some ⟨b,0,some f⟩) m m) xs) kl kl':=by exact gN):R Q B w0 kl F:=λw s=>by
 have s1:=s.gq hk;obtain⟨S,⟨S1,S2,q1,q2,e⟩,h2,h3⟩:=s1.own;rcases q1 with⟨_,h0,_⟩|⟨b',o',f',cells,h4,h5,h6,h7,h8,h9⟩
 ·cases h0
 injection h4 with e1 e2 e3;injection e1 with e1;injection e1 with e1 e4 e5;injection e5 with e5;subst e1 e4 e5 e2;rw[fo]at h8;obtain⟨l,hl,hp⟩:=IE (p:=λk (p:α×E.Y)=>xs[k]? =some p.1/\(∀(j:Nat) u,(E.pat p.1 p.2)[j]? =some u->cells[0+k*E.n+j]? =some u)/\∀f∈E.fs p.1 p.2,f.p w) xs.length (λk hk=>by
  obtain⟨y,q1,q2⟩:=h9 k xs[k] (bP hk);exact⟨(xs[k],y),bP hk,q1,q2⟩)
 have hm:l.map (·.1)=xs:=by
  apply iY;intro k;rw[dm];by_cases hk:k<xs.length
  ·have hk':k<l.length:=by omega
   rw[bP hk',jT,(hp k l[k] (bP hk')).1]
  ·rw[fO (by omega),fO (by omega)];rfl
 have hfl:=za (E:=E) l;have hcells:cells=eG E l:=by
  apply iY;intro j;by_cases hj:j<l.length*E.n
  ·have hn0:0<E.n:=by
    rcases Gc E.n with h0|h0
    ·rw[h0]at hj;omega
    ·exact h0
   have hd:j/E.n<l.length:=by rw[Nat.div_lt_iff_lt_mul hn0];exact hj
   have hmod:=zO j hn0;have hpk:=bP hd;have hu:(E.pat (l[j/E.n]).1 (l[j/E.n]).2)[j%E.n]? =some ((E.pat (l[j/E.n]).1 (l[j/E.n]).2)[j%E.n]'(by rw[E.len];exact hmod)):=bP _;have u1:=(hp _ _ hpk).2.1 (j%E.n) _ hu;have u2:=vZ hpk hu;have yX:j/E.n*E.n+j%E.n=j:=by rw[Nat.mul_comm];exact Nat.div_add_mod j E.n
   rw[fo,yX]at u1;rw[yX]at u2;rw[u1,u2]
  ·rw[fO (by rw[h8,<- hl];omega),fO (by omega)]
 refine h l hm rfl h5 w ⟨s1.agree,s1.le,s1.gF,⟨S,⟨S1,S2,⟨h6,by rw[<- hcells];exact h7⟩,q2,e⟩,h2,h3⟩,λg hg=>?_⟩;rcases dx.1 hg with rfl|hg
 ·intro p hp' g hg;obtain⟨k,hk⟩:=uy.1 hp';exact(hp k p hk).2.2 g hg
 ·exact s1.facts g hg
theorem adC{α:Type}(E:Enc α){aC:List (α×E.Y)}{rest':List Value}{b f c:Nat}{Q:IH->Prop}(hf:f=0\/f=E.n)(hc:aC.length<=c)(h:R Q B w0 kl' (ai E (.slice (some ⟨b,0,some f⟩) aC.length c) (aC.map (·.1))::F))
 (ha:∀w,(∀f∈F,f.p w)->(pG E aC).p w) (hk:az (pt b (.cells (eG E aC++rest'))) kl kl':=by exact gN):R Q B w0 kl F:=λw s=>by
 have hall:=ha w s.facts;obtain⟨w',hw,s'⟩:=(s.gq hk).freeze (fs:=[⟨λw=>Fz w b (eG E aC++rest'),λa h=>h.mono a⟩]) (λw w' S hp hle hh hz g hg=>by
  rw[bM.1 hg];exact⟨hz b (by rw[hp.1];exact bM.2 rfl),.inl (by rw[hh];exact hp.2)⟩)
 have hfz:Fz w' b (eG E aC++rest'):=s'.facts _ (cB ..);have GX:=ha w' λf hf=>s'.facts f (nA _ hf);rw[<- hw];refine h w' ⟨s'.agree,s'.le,s'.gF,s'.own,λg hg=>?_⟩;rcases dx.1 hg with rfl|hg
 ·refine .inr ⟨b,0,f,c,_,⟨by rw[bY],by rw[bY];exact hc,hf⟩,hfz,λk x hk=>?_⟩;rw[dm]at hk;cases hp:aC[k]? with
  |none=>rw[hp]at hk;cases hk
  |some p=>
   rw[hp]at hk;cases hk;refine⟨p.2,λj u hj=>?_,GX p (aZ hp)⟩;have:=vZ hp hj;rw[fo,qp (bq.1 this).1];exact this
 ·exact s'.facts g (nA _ hg)
theorem adD{α:Type}(E:Enc α){v:Value}{aC:List (α×E.Y)}{Q:IH->Prop}(h0:aC=[]->∀c,v=.slice none 0 c->R Q B w0 kl F)(h1:aC=[]->∀i o f c,v=.slice (some ⟨i,o,some f⟩) 0 c->R Q B w0 kl F)
 (h2:0<aC.length->∀i o f c,v=.slice (some ⟨i,o,some f⟩) aC.length c->R Q B w0 kl F) (hf:rT E v aC∈F:=by exact vW):R Q B w0 kl F:=λw s=>by
 rcases s.facts _ hf with⟨e,a,c,hv,hg⟩|⟨i,o,f,c,cells,⟨hv,_⟩,_⟩
 ·match a,hv,hg with
  |none,hv,_=>exact h0 e c hv w s
  |some ⟨i,o,some f⟩,hv,_=>exact h1 e i o f c hv w s
 ·by_cases hx:aC=[]
  ·subst hx;exact h1 rfl i o f c hv w s
  ·exact h2 (BK.2 hx) i o f c hv w s
end Go.Ideal
namespace Go.Ideal
variable {P:Program}
section
variable {B:List Nat} {w0:Wd} {kl kl' bH:List OA} {F:List aO} {K:KO} {n:Nat} {l:List (Nat×Value)} {D:List Deferred} {pm:Option FrameMode} {ro:Option Nat}
theorem adE{v:Value}{xs:List Int}{Q:IH->Prop}(hne:0<xs.length)(h:∀b f pre,(f=0\/f=1)->v=.slice (some ⟨b,pre.length,some f⟩) xs.length xs.length->R Q B w0 (pt b (.cells (pre++xs.map (.int .i64)))::kl') F)(hk:az (ap ae v xs) kl kl':=by exact gN):R Q B w0 kl F:=λw s=>by
 have s1:=s.gq hk;obtain⟨S,⟨S1,S2,q1,q2,e⟩,h2,h3⟩:=s1.own;rcases q1 with⟨h0,_⟩|⟨b,o,f,cells,h4,h5,h6,h7,h8,h9⟩
 ·rw[h0]at hne;simp at hne
 ·have h8:cells.length=o+xs.length*1:=h8;have hpl:(cells.take o).length=o:=by rw[gT];omega
  have hc:cells=cells.take o++xs.map (.int .i64):=by
   conv=>lhs;rw[<- uq o cells]
   congr 1;apply iY;intro k;rw[oO,dm];by_cases hkl:k<xs.length
   ·obtain⟨y,u1,_⟩:=h9 k xs[k] (bP hkl);have:=u1 0 (.int .i64 xs[k]) rfl;rw[bP hkl];have e1:o+k*ae.n+0=o+k:=by show o+k*1+0=o+k;omega
    rw[e1]at this;exact this
   ·rw[fO (by omega),fO (by omega)];rfl
  refine h b f (cells.take o) h5 (by rw[hpl];exact h4) w ⟨s1.agree,s1.le,s1.gF,⟨S,⟨S1,S2,⟨h6,by rw[<- hc];exact h7⟩,q2,e⟩,h2,h3⟩,s1.facts⟩
theorem adF{b f m:Nat}{pre:List Value}{xs:List Int}{Q:IH->Prop}(hm:m=xs.length)(hf:f=0\/f=1)(h:R Q B w0 (ap ae (.slice (some ⟨b,pre.length,some f⟩) m m) xs::kl') F)(hk:az (pt b (.cells (pre++xs.map (.int .i64)))) kl kl':=by exact gN):R Q B w0 kl F:=λw s=>by
 subst hm;refine h w ((s.gq hk).AB (A:=pt b (.cells (pre++xs.map (.int .i64)))) λw S hp=>.inr ⟨b,pre.length,f,_,rfl,hf,hp.1,hp.2,by rw[iH,bY];show _=pre.length+xs.length*1;omega,λk x hx=>⟨(),λj u hj=>?_,λf hf=>by cases hf⟩⟩);match j,hj with
 |0,hj=>
  have hj:some (Value.int .i64 x)=some u:=hj;have e1:pre.length+k*ae.n+0=pre.length+k:=by show pre.length+k*1+0=pre.length+k;omega
  rw[e1,pR (by omega),show pre.length+k - pre.length=k by omega,dm,hx];exact hj
 |j+1,hj=>exact absurd hj (by show¬([Value.int .i64 x]:List Value)[j+1]? =some u;simp)
end
theorem TS{pre:List Value}{xs:List Int}{k:Nat}{x:Int}(h:xs[k]? =some x):(pre++xs.map (Value.int .i64))[pre.length+k*1]? =some (.int .i64 x):=by
 rw[pR (by omega),show pre.length+k*1 - pre.length=k by omega,dm,h];rfl
theorem TT{pre:List Value}{xs:List Int}{k:Nat}{x:Int}:(pre++xs.map (Value.int .i64)).set (pre.length+k*1) (.int .i64 x)=pre++(xs.set k x).map (.int .i64):=by
 rw[Gl _ _ (by omega),show pre.length+k*1 - pre.length=k by omega,DD]
