/-
  Part IdealPK.
-/
import Derived.Test.YtfakljdleblkoaaGreatIdealOK
set_option linter.all false
namespace Go.Ideal
variable {P:Program} {B:List Nat} {w0:Wd} {kl kl' bG:List OA} {F:List aK} {K:KO} {ds:List Tmp} {rest:List bT} {n:Nat} {l:List (Nat×Value)} {D:List Deferred} {pm:Option FrameMode} {ro:Option Nat} {d:Nat} {g:Option (Tmp×Bool)}
theorem acM{α:Type}(E:Enc α){v:Value}{aF:List (α×E.Y)}{Q:IH->Prop}(h0:aF=[]->∀c,v=.slice none 0 c->R Q B w0 kl F)(h1:aF=[]->∀i o f c,v=.slice (some ⟨i,o,some f⟩) 0 c->R Q B w0 kl F)
 (h2:0<aF.length->∀i o f c,v=.slice (some ⟨i,o,some f⟩) aF.length c->R Q B w0 kl F) (hf:rD E v aF∈F:=by exact vF):R Q B w0 kl F:=λw s=>by
 rcases s.facts _ hf with⟨e,a,c,hv,hg⟩|⟨i,o,f,c,cells,⟨hv,_⟩,_⟩
 ·match a,hv,hg with
  |none,hv,_=>exact h0 e c hv w s
  |some ⟨i,o,some f⟩,hv,_=>exact h1 e i o f c hv w s
 ·by_cases hx:aF=[]
  ·subst hx;exact h1 rfl i o f c hv w s
  ·exact h2 (AX.2 hx) i o f c hv w s
end Go.Ideal
namespace Go.Ideal
variable {P:Program}
section
variable {B:List Nat} {w0:Wd} {kl kl' bG:List OA} {F:List aK} {K:KO} {n:Nat} {l:List (Nat×Value)} {D:List Deferred} {pm:Option FrameMode} {ro:Option Nat}
end
theorem St.opI{B:List Nat}{w0 w:Wd}{kl:List OA}{F:List aK}{v:Value}{xs:List Int}(hne:0<xs.length)(s1:St B w0 (ap ae v xs::kl) F w):∃b f pre,(f=0\/f=1)/\v=.slice (some ⟨b,pre.length,some f⟩) xs.length xs.length/\St B w0 (pt b (.cells (pre++xs.map (.int .i64)))::kl) F w:=by
 obtain⟨S,⟨S1,S2,q1,q2,e⟩,h2,h3⟩:=s1.own;rcases q1 with⟨h0,_⟩|⟨b,o,f,cells,h4,h5,h6,h7,h8,h9⟩
 ·rw[h0]at hne;simp at hne
 ·have h8:cells.length=o+xs.length*1:=h8;have hpl:(cells.take o).length=o:=by rw[ig];omega
  have hc:cells=cells.take o++xs.map (.int .i64):=by
   conv=>lhs;rw[<- uU o cells]
   congr 1;apply jv;intro k;rw[qK,dK];by_cases hkl:k<xs.length
   ·obtain⟨y,u1,_⟩:=h9 k xs[k] (bW hkl);have:=u1 0 (.int .i64 xs[k]) rfl;rw[bW hkl];have e1:o+k*ae.n+0=o+k:=by show o+k*1+0=o+k;omega
    rw[e1]at this;exact this
   ·rw[gJ (by omega),gJ (by omega)];rfl
  exact⟨b,f,cells.take o,h5,by rw[hpl];exact h4,s1.agree,s1.le,s1.gF,⟨S,⟨S1,S2,⟨h6,by rw[<- hc];exact h7⟩,q2,e⟩,h2,h3⟩,s1.facts⟩
theorem acO{b f m:Nat}{pre:List Value}{xs:List Int}(hm:m=xs.length)(hf:f=0\/f=1)(w:Wd)(S:List Nat)(hp:(pt b (.cells (pre++xs.map (.int .i64)))).p w S):(ap ae (.slice (some ⟨b,pre.length,some f⟩) m m) xs).p w S:=by
 subst hm;refine .inr ⟨b,pre.length,f,_,rfl,hf,hp.1,hp.2,by rw[iE,cz];show _=pre.length+xs.length*1;omega,λk x hx=>⟨(),λj u hj=>?_,λf hf=>by cases hf⟩⟩;match j,hj with
 |0,hj=>
  have hj:some (Value.int .i64 x)=some u:=hj;have e1:pre.length+k*ae.n+0=pre.length+k:=by show pre.length+k*1+0=pre.length+k;omega
  rw[e1,qa (by omega),show pre.length+k - pre.length=k by omega,dK,hx];exact hj
 |j+1,hj=>exact absurd hj (by show¬([Value.int .i64 x]:List Value)[j+1]? =some u;simp)
theorem aU.acP{Y:Type}{fn:Fn}{args:Option Addr->List Value}{cap:List Value}{a:Option Addr}{xs:List Int}{zs:Y->List Int}{F:List aK}{val:Y->Value}{fs:Y->List aK}{pr:Y->Prop}(hne:0<xs.length)(hl:∀y,(zs y).length=xs.length)
 (h:∀b f pre,(f=0\/f=1)->aU P fn (args (some ⟨b,pre.length,some f⟩)) cap [pt b (.cells (pre++xs.map (.int .i64)))] F val (λy=>[pt b (.cells (pre++(zs y).map (.int .i64)))]) fs pr):
 aU P fn (args a) cap [ap ae (.slice a xs.length xs.length) xs] F val (λy=>[ap ae (.slice a xs.length xs.length) (zs y)]) fs pr:=λB w s=>by
 obtain⟨b,f,pre,hf,ev,s'⟩:=s.opI hne;obtain rfl:a=some ⟨b,pre.length,some f⟩:=by injection ev
 refine .qY _ (h b f pre hf B w s') ?_;rintro r pm h' ⟨h1,w',y,e1,st,e2,e3⟩;exact⟨h1,w',y,e1,st.zW λw S hp=>acO (hl y).symm hf w S hp,e2,e3⟩
theorem aU.weak{Y:Type}{fn:Fn}{args cap:List Value}{kl:List OA}{F:List aK}{val:Y->Value}{kl':Y->List OA}{fs:Y->List aK}{pr SN:Y->Prop}(h:aU P fn args cap kl F val kl' fs pr)(hp:∀y,pr y->SN y):aU P fn args cap kl F val kl' fs SN:=λB w s=>by
 refine .qY _ (h B w s) ?_;rintro r pm h' ⟨h1,w',y,e1,st,e2,e3⟩;exact⟨h1,w',y,e1,st,e2,hp y e3⟩
theorem SQ{pre:List Value}{xs:List Int}{k:Nat}{x:Int}(h:xs[k]? =some x):(pre++xs.map (Value.int .i64))[pre.length+k*1]? =some (.int .i64 x):=by
 rw[qa (by omega),show pre.length+k*1 - pre.length=k by omega,dK,h];rfl
theorem SS{pre:List Value}{xs:List Int}{k:Nat}{x:Int}:(pre++xs.map (Value.int .i64)).set (pre.length+k*1) (.int .i64 x)=pre++(xs.set k x).map (.int .i64):=by
 rw[JU _ _ (by omega),show pre.length+k*1 - pre.length=k by omega,List.map_set]
