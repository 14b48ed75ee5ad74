/-
  The ideal machine, 82: a call from a heap that is known to the letter, over package variables.
-/
import Derived.Test.YtoohgkkmdnbnfaaGreatDoorIdealOA
import Derived.Lib.Bytealg
import Derived.Lib.Atoi
import Derived.Lib.ConvBytes
import Derived.Shelf.SlSortCmp.WholeK
import Derived.Sort.EncStr
set_option linter.all false
namespace Go.Ideal
noncomputable def Mo(g:Nat)(h:IH):Bool:=Dg (λi=>(h.get i).isNone) (List.range g)
theorem acg{g:Nat}{h:IH}(hh:Mo g h=true){i:Nat}(hi:i<g):h.get i=none:=by
 unfold Mo at hh;rw[JX,lG]at hh;have:=hh i (uj.2 hi);cases e:h.get i with
 |none=>rfl
 |some o=>rw[e]at this;cases this
noncomputable def Im(g:Nat)(l:List (Nat×dG))(n:Nat)(v:Value):BR:=λr pm h=>
 match pm with
 |some _=>false
 |none=>match r with
  | .ok v'=>mP 50 v v'&&(Nat.beq h.next n&&(Nat.beq h.low g&&(Eg l h&&Mo g h)))
  | .fM _=>false
noncomputable def Cc(g:Nat)(h0:IH)(l:List (Nat×dG))(n:Nat)(fn:Nat)(args:List Value)(v:Value):dO->IH->Option (Value×IH):=λq h=>
 match q with
 |⟨.func f,Io,[],none⟩=>cond (Nat.beq f fn&&(mP 5 (.tuple ⟨args⟩) (.tuple ⟨Io⟩)&&(Nat.beq h0.next h.next&&(Nat.beq h0.low h.low&&BP 30 h0.t h.t)))) (some (v,⟨heapT l,n,g⟩)) none
 |_=>none
theorem SI{P:Program}{g:Nat}{h0:IH}{l:List (Nat×dG)}{n fn:Nat}{args:List Value}{v:Value}(hall:(List.range h0.next).all (λi=>Nat.blt i g||((heapT l).get i).isSome)=true)
 (hc:CALL P ⟨.func fn,args,[],none⟩ h0 (λr pm h'=>Im g l n v r pm h'=true))
 {q:dO} {h:IH} {v':Value} {h':IH} (hk:Cc g h0 l n fn args v q h=some (v',h')):CALL P q h (λr pm h2=>r=.ok v'/\pm=none/\h2=h'):=by
 unfold Cc at hk;split at hk
 ·rename_i f Io;cases hcd:(Nat.beq f fn&&(mP 5 (.tuple ⟨args⟩) (.tuple ⟨Io⟩)&&(Nat.beq h0.next h.next&&(Nat.beq h0.low h.low&&BP 30 h0.t h.t))))with
  |false=>rw[hcd]at hk;cases hk
  |true=>
   rw[hcd]at hk;simp only[cond,aC,cK]at hk;obtain⟨rfl,rfl⟩:=hk;simp only[gL]at hcd;obtain⟨h1,h2,h3,h4,h5⟩:=hcd;have h1:=jd h1;subst h1;have h2:=uA _ _ _ h2;injection h2 with h2;injection h2 with h2;subst h2;have e3:=jd h3;have e4:=jd h4;have e5:=LQ _ h5;clear h3 h4 h5;obtain⟨t0,n0,l0⟩:=h0;obtain⟨t1,n1,l1⟩:=h;dsimp only at e3 e4 e5;subst e3 e4 e5;refine .forget _ hc ?_;intro r pm h' hl;unfold Im at hl;split at hl
   ·cases hl
   ·split at hl
    ·rename_i v';simp only[gL]at hl;obtain⟨h1,h2,h3,h4,h5⟩:=hl;refine⟨⟨heapT l,n,g⟩,(jd h2).symm,(jd h3).symm,?_,?_,rfl,rfl⟩
     ·intro i;rcases La l i with e|⟨o,e1,e2⟩
      ·by_cases hig:i<g
       ·left;rw[acg h5 hig];exact e
       refine .inr ⟨?_,e⟩;apply Classical.byContradiction;intro hno;rw[lG]at hall;have:=hall i (uj.2 (Nat.lt_of_not_le hno));rw[e,uW]at this;rcases this with h|h
       ·exact hig (jV h)
       ·cases h
      ·left;exact e2.trans (Qu h4 i o e1).symm
     ·rw[uA _ _ _ h1]
    ·cases hl
 ·cases hk
theorem ach{P:Program}{f:FuncId}{fn:Func}(hfn:P.funcs[f]? =some fn){body:Code}(hb:fn.body=some body)(hname:fn.name≠ "runtime.NumGoroutine"){args:List Value}{v:Value}(hv:bQ v=true)(ha:args.all bQ=true)
 (hC:∀w,Calls P f ⟨args⟩ w λe w'=>e=.returned v/\w'=w) {h:IH}:kQ P ⟨.func f,args,[],none⟩ h (λr pm h2=>pm=none/\r=.ok v/\h2=h):=by
 intro β w fn' args' cap' hG hW hf ha' hcap;obtain⟨jC,t1,t2⟩:=Ec (P:=P) (q:=⟨.func f,args,[],none⟩) (f:=f) (args:=args) (by simp only[target,jl,gy]) hf ha' hcap hfn hb hname w;have e2:=aV.Mm t2 ha;subst e2;refine⟨_,Frame.enter P f ⟨_⟩ .normal,t1,rfl,λcs0 uy=>?_⟩;obtain⟨e,w',fr,⟨he,hw'⟩,hcomes,hfr,hlv⟩:=hC w cs0;subst he hw';exact⟨.ok v,none,h,β,_,.returned v,cs0,⟨rfl,rfl,rfl⟩,hW,Eff.refl _ _ _ hW.dom,.ok (VR.free hv),.none cs0,.inl ⟨f,_,fr,rfl,hcomes,hfr,hlv.2.2.1,hlv.1,hlv.2.1,hlv.2.2.2⟩⟩
noncomputable def Ip(fn:Nat):dO->IH->Option (Value×IH):=λq h=>
 match q with
 |⟨.func f,[.string s,.int .u8 c],[],none⟩=>cond (Nat.beq f fn) (some (.int .i64 (Lib.indexByte s.data.toList c.toNat.toUInt8),h)) none
 |_=>none
theorem aci{P:Program}{f:FuncId}{fn:Func}(hfn:P.funcs[f]? =some fn){body:Code}(hb:fn.body=some body)(hname:fn.name≠ "runtime.NumGoroutine")
 (hC:∀s c w,Calls P f #[.string s,.int .u8 c] w λe w'=>e=.returned (.int .i64 (Lib.indexByte s.data.toList c.toNat.toUInt8))/\w'=w)
 {q:dO} {h:IH} {v':Value} {h':IH} (hk:Ip f q h=some (v',h')):CALL P q h (λr pm h2=>r=.ok v'/\pm=none/\h2=h'):=by
 unfold Ip at hk;split at hk
 ·rename_i g s c;cases hcd:Nat.beq g f with
  |false=>rw[hcd]at hk;cases hk
  |true=>
   rw[hcd]at hk;have e:=jd hcd;subst e;injection hk with hk;injection hk with h1 h2;subst h1 h2;refine .qF _ (.real (ach hfn hb hname rfl rfl λw=>hC s c w)) ?_;rintro r pm h2 ⟨a,b,c⟩;exact⟨b,a,c⟩
 ·cases hk
structure Beyond(w w':World):Prop where
 heap:∀b,b<w.heap.size->w'.heap[b]? =w.heap[b]?
 size:w.heap.size<=w'.heap.size
 os:w'.os=w.os
 tape:w'.tape=w.tape
 output:w'.output=w.output
 drawn:w.drawn<=w'.drawn
theorem WR.beyond{P:Program}{β:aD}{h:IH}{w w':World}(hW:WR P β h w)(hb:Beyond w w'):WR P β h w'/\Eff β h w β h w':=
 ⟨⟨hW.dom,hW.live,λi g o h1 h2=>(hW.obj i g o h1 h2).congr (hb.heap _ (hW.obj i g o h1 h2).lt),hW.inj⟩,
  ⟨λ_ _=>rfl,bJ _,λ_ _ h=>h,λ_ _ _=>rfl,bJ _,λ_ _ _=>rfl,hb.os,hb.tape,hb.output,hb.size,λb hb' _=>hb.heap b hb',λi g hg hi=>absurd (hW.dom _ _ hg) (by omega),λi g _ _ _ _ hb'=>hb.heap _ hb',hb.drawn⟩⟩
theorem acj(w:World)(e:TypeId)(s:ByteArray):Beyond w (Lib.bytesWorld w e s):=by
 refine⟨λb hb=>?_,?_,rfl,rfl,rfl,yT _⟩
 ·show((w.heap.push _).modify w.heap.size _)[b]? =_;rw[Array.getElem?_modify,if_neg (by omega),CU,if_neg (by omega)]
 ·show w.heap.size<=((w.heap.push _).modify w.heap.size _).size;rw[Array.size_modify,Array.size_push];omega
theorem ack{P:Program}{f:FuncId}{fn:Func}(hfn:P.funcs[f]? =some fn){body:Code}(hb:fn.body=some body)(hname:fn.name≠ "runtime.NumGoroutine"){args:List Value}{v:Value}(hv:Ml v=true)(ha:args.all bQ=true)
 (hC:∀w,Calls P f ⟨args⟩ w λe w'=>e=.returned v/\Beyond w w') {h:IH}:kQ P ⟨.func f,args,[],none⟩ h (λr pm h2=>pm=none/\r=.ok v/\h2=h):=by
 intro β w fn' args' cap' hG hW hf ha' hcap;obtain⟨jC,t1,t2⟩:=Ec (P:=P) (q:=⟨.func f,args,[],none⟩) (f:=f) (args:=args) (by simp only[target,jl,gy]) hf ha' hcap hfn hb hname w;have e2:=aV.Mm t2 ha;subst e2;refine⟨_,Frame.enter P f ⟨_⟩ .normal,t1,rfl,λcs0 uy=>?_⟩;obtain⟨e,w',fr,⟨he,hw'⟩,hcomes,hfr,hlv⟩:=hC w cs0;subst he;obtain⟨w1,w2⟩:=hW.beyond hw';exact⟨.ok v,none,h,β,_,.returned v,cs0,⟨rfl,rfl,rfl⟩,w1,w2,.ok (VR.acf hv),.none cs0,.inl ⟨f,_,fr,rfl,hcomes,hfr,hlv.2.2.1,hlv.1,hlv.2.1,hlv.2.2.2⟩⟩
noncomputable def Iq(fn:Nat):dO->IH->Option (Value×IH):=λq h=>
 match q with
 |⟨.func f,[.string s],[],none⟩=>cond (Nat.beq f fn&&Nat.ble s.data.toList.length 18) (match Lib.atoi s.data.toList with
  |some n=>some (.tuple ⟨[.int .i64 n,.nilIface]⟩,h)
  |none=>none) none
 |_=>none
theorem acm{P:Program}{f:FuncId}{fn:Func}(hfn:P.funcs[f]? =some fn){body:Code}(hb:fn.body=some body)(hname:fn.name≠ "runtime.NumGoroutine")
 (hC:∀(s:ByteArray) (n:Int),s.size<=18->Lib.atoi s.data.toList=some n->∀w,Calls P f #[.string s] w λe w'=>e=.returned (.tuple #[.int .i64 n,.nilIface])/\Beyond w w')
 {q:dO} {h:IH} {v':Value} {h':IH} (hk:Iq f q h=some (v',h')):CALL P q h (λr pm h2=>r=.ok v'/\pm=none/\h2=h'):=by
 unfold Iq at hk;split at hk
 ·rename_i g s;cases hcd:(Nat.beq g f&&Nat.ble s.data.toList.length 18)with
  |false=>rw[hcd]at hk;cases hk
  |true=>
   rw[hcd]at hk;rw[gL]at hcd;have e:=jd hcd.1;have hl:s.size<=18:=by
    have h2:=jV hcd.2;rw[Ot]at h2;exact h2
   subst e;dsimp only[cond]at hk;split at hk
   ·rename_i n hn;injection hk with hk;injection hk with h1 h2;subst h1 h2;refine .qF _ (.real (ack hfn hb hname rfl rfl λw=>hC s n hl hn w)) ?_;rintro r pm h2 ⟨a,b,c⟩;exact⟨b,a,c⟩
   ·cases hk
 ·cases hk
end Go.Ideal
namespace Go.Ideal
open Go.Sort Go.Proofs Go.RowKit Go.Lib Go.Shelf
variable {P:Program}
theorem Eff.beyond{β β':aD}{h h':IH}{w w':World}(hW:WR P β h w)(he:Eff β h w β' h' w')(hl:h'.low=h.next):Beyond w w':=by
 refine⟨λk hk=>?_,he.size,he.os,he.tape,he.output,he.drawn⟩;by_cases hx:∀i g,β i=some g->h.get i≠none->g.b≠k
 ·exact he.keep k hk hx
 ·have hx:∃i g,β i=some g/\h.get i≠none/\g.b=k:=by
   apply Classical.byContradiction;intro hc;exact hx λi g hi hg hb=>hc ⟨i,g,hi,hg,hb⟩
  obtain⟨i,g,hi,hg,rfl⟩:=hx;have hin:=hW.dom i g hi;exact he.qB i g (by rw[hl];exact hin) hin hi hg hk
structure El{X:Type}(β:aD)(E:Enc X)(xs:List X)(d:Wd) where
 x:X
 y:E.Y
 v:List Value
 mem:x∈xs
 rel:aV β (E.pat x y) v
 cell:(E.pat x y).all cellV=true
 fs:∀f∈E.fs x y,f.p d
end Go.Ideal
namespace Go.Ideal
open Go.Sort Go.RowKit Go.Proofs
variable {P:Program}
def Mq(P:Program)(f:FuncId):Prop:=∀(blk off cap:Nat) (zs:List ByteArray) (w:World),Holds encStr w blk off (zs.map λz=>z.data.toList).toArray->blk<w.heap.size->zs.length<4611686018427387904->
 Calls P f #[.slice (some ⟨blk,off,none⟩) zs.length cap] w λe w'=>e=.returned (.tuple #[])/\∃n os,w'=Go.Sort.grow (putRow encStr (Sort.ahead w n) blk off ((zs.map λz=>z.data.toList).mergeSort λx y=>decide (x<=y)).toArray) os
def Ce(zs:List ByteArray):List (List UInt8):=(zs.map λz=>z.data.toList).mergeSort λx y=>decide (x<=y)
def nG(zs:List ByteArray):List ByteArray:=(Ce zs).map λl=>⟨⟨l⟩⟩
theorem Ir(zs:List ByteArray):(nG zs).length=zs.length:=by unfold nG Ce;rw[bR,List.length_mergeSort,bR]
theorem acn{f:FuncId}(hS:Mq P f){fn:Func}(hfn:P.funcs[f]? =some fn){body:Code}(hb:fn.body=some body)(hname:fn.name≠ "runtime.NumGoroutine"){b o c:Nat}{fl:Option Nat}{zs:List ByteArray}{h h':IH}{cs:List Value}
 (hg:h.get b=some (.cells cs)) (hz:∀(j:Nat) z,zs[j]? =some z->cs[o+j]? =some (.string z)) (hne:0<zs.length) (hlen:zs.length<4611686018427387904) (hs:h.storeAt b o ((nG zs).map .string)=some h'):
 kQ P ⟨.func f,[.slice (some ⟨b,o,fl⟩) zs.length c],[],none⟩ h (λr pm h2=>pm=none/\r=.ok (.tuple ⟨[]⟩)/\h2=h'):=by
 intro β w fn' args' cap' hG hW hf ha hcap;obtain⟨jC,t1,t2⟩:=Ec (P:=P) (q:=⟨.func f,[.slice (some ⟨b,o,fl⟩) zs.length c],[],none⟩) (f:=f) (args:=[.slice (some ⟨b,o,fl⟩) zs.length c]) (by simp only[target,jl,gy]) hf ha hcap hfn hb hname w;cases t2 with|cons hv tl=>
 cases tl;obtain⟨g,a,c',hi,rfl,hab,_,hn,hcc,hao,_⟩:=hv.mR;have hao:a.off=g.off+o/\a.spot=none:=by
  rcases hao with e|e
  ·omega
  ·exact e
 obtain⟨⟨c0,t0,fz0,hh⟩,q2,q3,q4,q5,q6⟩:=hW.obj b g _ hi hg;have ea:a=⟨g.b,g.off+o,none⟩:=by
  obtain⟨ab,ao,Io⟩:=a;simp only at hab hao;rw[hab,hao.1,hao.2]
 subst ea;have hin:∀j,j<zs.length->o+j<cs.length:=λj hj=>(bO.1 (hz j _ (cB hj))).1;have hH:Holds encStr w g.b (g.off+o) (zs.map λz=>z.data.toList).toArray:=λj hj=>by
  have hj:j<zs.length:=by simpa using hj
  obtain⟨v',h1,h2⟩:=q6 (o+j) _ (hz j _ (cB hj));have:=h2.xD;subst this;refine⟨?_,(q4 _ (by have:=hin j hj;omega)).2⟩;rw[og,h1];congr 1;rw[getElem!_pos _ j (by simpa using hj)];simp
 have hlt:g.b<w.heap.size:=(Ou.1 hh).1;have hC:=hS g.b (g.off+o) c' zs w hH hlt hlen;obtain⟨_,w1,w2⟩:=GH hW hi hs (vs':=(nG zs).map .string) (aV.free (by
  have:∀l:List ByteArray,fJ (l.map Value.string)=true:=by
   intro l;induction l with
   |nil=>rfl
   |cons x l ih=>rw[gQ];simp[fJ,bQ,Ideal.cellV,ih]
  exact this _)) (by
  rw[lG];intro x hx;obtain⟨z,_,rfl⟩:=fo.1 hx;rfl)
 refine⟨_,Frame.enter P f ⟨_⟩ .normal,t1,rfl,λcs0 uy=>?_⟩;obtain⟨e,w',fr,⟨he,k,os,hw'⟩,hcomes,hfr,hlv⟩:=hC cs0;subst he;have hw1:putRow encStr (Sort.ahead w k) g.b (g.off+o) ((zs.map λz=>z.data.toList).mergeSort λx y=>decide (x<=y)).toArray=Sort.ahead (w.setCells g.b (g.off+o) ((nG zs).map .string)) k:=by
  have:=setCells_putRow encStr w g.b (g.off+o) (Ce zs).toArray;rw[show(Ce zs).toArray.toList.map encStr=(nG zs).map .string by unfold nG;rw[u7];rfl]at this;rw[this];rfl
 rw[hw1]at hw';have w3:WR P β h' (Sort.ahead (w.setCells g.b (g.off+o) ((nG zs).map .string)) k):=w1.qC rfl;have w4:=w2.trans (Eff.qC (w':=Sort.ahead (w.setCells g.b (g.off+o) ((nG zs).map .string)) k) w1.dom rfl rfl rfl rfl (Nat.le_add_right _ _));obtain⟨w5,w6⟩:=w3.grow os;rw[<- hw']at w5 w6;refine⟨.ok (.tuple ⟨[]⟩),none,h',β,w',.returned (.tuple #[]),cs0,⟨rfl,rfl,rfl⟩,w5,w4.trans w6,.ok (.dN _),.none cs0,.inl ⟨f,_,fr,rfl,hcomes,hfr,hlv.2.2.1,hlv.1,hlv.2.1,hlv.2.2.2⟩⟩
theorem aco{f:FuncId}(hS:Mq P f){fn:Func}(hfn:P.funcs[f]? =some fn){body:Code}(hb:fn.body=some body)(hname:fn.name≠ "runtime.NumGoroutine"){a:Option Addr}{zs:List ByteArray}(hne:0<zs.length)(hlen:zs.length<4611686018427387904):
 bi P (.func f) [.slice a zs.length zs.length] [] [ap aR (.slice a zs.length zs.length) zs] [] (λ_:Unit=>.tuple ⟨[]⟩) (λ_=>[ap aR (.slice a zs.length zs.length) (nG zs)]) (λ_=>[]) (λ_=>True):=by
 intro B w s;obtain⟨S,⟨S1,S2,q1,q2,e⟩,h2,h3⟩:=s.own;rcases q1 with⟨h,_⟩|⟨b,o,fl,cells,e1,hf,e2,hb',hcl,hel⟩
 ·rw[h]at hne;simp at hne
 injection e1 with e1 e1';subst e1;have hcl:cells.length=o+zs.length:=by rw[hcl];simp[aR]
 have hz:∀(j:Nat) z,zs[j]? =some z->cells[o+j]? =some (.string z):=λj z hj=>by
  obtain⟨y,u1,_⟩:=hel j z hj;have:=u1 0 (.string z) rfl;simpa[aR]using this
 have hst:∃cs2,w.h.storeAt b o ((nG zs).map .string)=some (w.h.set b (.cells cs2))/\cs2.length=cells.length/\∀(k:Nat) z,(nG zs)[k]? =some z->cs2[o+k]? =some (.string z):=by
  have hov:∃cs2,jb cells o ((nG zs).map .string)=some cs2:=E8 _ _ _ (by rw[bR,Ir];omega);obtain⟨cs2,hl⟩:=hov;obtain⟨l1,l2,l3⟩:=Dv hl;refine⟨cs2,?_,l2,λk z hk=>?_⟩
  ·unfold IH.storeAt;simp only[hb',hl]
  ·rw[l3,if_pos ⟨by omega,by have:=(bO.1 hk).1;rw[bR];omega⟩,JE,eZ,hk];rfl
 obtain⟨cs2,hst,hl2,L9⟩:=hst;refine .real (KQ _ (acn hS hfn hb hname hb' hz hne hlen hst) ?_);rintro r pm h' ⟨rfl,rfl,rfl⟩;have s1:St B w [pt b (.cells cells)] [] w:=⟨s.agree,s.le,s.fH,⟨S,⟨S1,S2,⟨e2,hb'⟩,q2,e⟩,h2,h3⟩,λf hf=>by cases hf⟩
 refine⟨rfl,⟨w.h.set b (.cells cs2),w.z,λi hi=>w.kR i hi⟩,(),rfl,?_,rfl,trivial⟩;refine(s1.write (o':=.cells cs2)).BB (A:=pt b (.cells cs2)) λw' S' hp=>?_;refine .inr ⟨b,o,fl,cs2,by rw[Ir],hf,hp.1,hp.2,by rw[hl2,hcl,Ir];simp[aR],λk x hk=>⟨(),λj u hj=>?_,λf hf=>by cases hf⟩⟩;match j,hj with
 |0,hj=>
  cases hj;have:=L9 k x hk;simpa[aR]using this
end Go.Ideal
namespace Go.Ideal
variable {P:Program}
section
variable {B:List Nat} {w0:Wd} {kl kl':List OA} {F:List aH} {K:KO} {ds:List Tmp} {rest:List bT} {n:Nat} {l:List (Nat×Value)} {D:List Deferred} {pm:Option FrameMode} {ro:Option Nat} {d:Nat} {g:Option (Tmp×Bool)}
theorem acp{α:Type}{E:Enc α}{e:TypeId}{size bytes b':Nat}{s x:Operand}{v:Value}{xs:List α}{a:α}{y:E.Y}{cs:List Value}{k1 k2:List OA}(hn:Nat.blt d n=true)(hg:bU l g=true)
 (hs:ev l s=v) (hx:ev l x=.slice (some ⟨b',0,some 0⟩) 1 1) (hk:ay (ap E v xs) kl k1) (hc:ay (pt b' (.cells cs)) k1 k2) (hp:cs=E.pat a y) (hF:Sub (E.fs a y) F) (hz:E.n=size)
 (hm:(xs.length+1)*bytes<=1073741824/\(xs.length+1)*size<=1073741824/\xs.length+1<=1073741824):
 dL (R (λh=>aF P ds (⟨⟨some d,g,.append e size bytes s x⟩,[]⟩::rest) (act n l D pm ro) h K) B w0 kl F)
  (∀c,R (λh=>aF P ds rest (act n ((d,.slice (some ⟨c,0,some E.n⟩) (xs.length+1) (xs.length+1))::l) D pm ro) h K) B w0 (ap E (.slice (some ⟨c,0,some E.n⟩) (xs.length+1) (xs.length+1)) (xs++[a])::k2) F):=by
 refine⟨λr w st=>?_⟩;subst hp hz;have hlen:=E.len a y;have st2:St B w0 (ap E v xs::pt b' (.cells (E.pat a y))::k2) F w:=st.jD (.cons hk (.cons hc .nil));have hat:At w.h b' (.cells (E.pat a y)):=st2.at_ (.there .here);have l7:St B w0 (ap E v xs::k2) F w:=(st2.fV (.there .here)).tail;have hfs:∀f∈E.fs a y,f.p w:=λf hf=>st.facts f (hF.mem f hf);have hread:w.h.gU b' 0 (1*E.n)=some (E.pat a y):=by
  rw[hat.c.gU,nu,ny,yZ,uX,if_pos (by omega),<- hlen,bK]
 have hx1:ng (ev l x)=some (0+1):=by rw[hx];rfl
 have hx2:lZ E.n (0+1) (ev l x) w.h=some (E.pat a y):=by rw[hx];exact hread
 -- what lies there afterwards
 have put:∀(w':Wd) (c:Nat) (f:Nat) (cells:List Value),cells.length=xs.length*E.n->(∀(k:Nat) z,xs[k]? =some z->∃y,(∀(j:Nat) u,(E.pat z y)[j]? =some u->cells[k*E.n+j]? =some u)/\∀f∈E.fs z y,f.p w')->(∀f∈E.fs a y,f.p w')->
  (f=0\/f=E.n)->∀S,(pt c (.cells (cells++E.pat a y))).p w' S->(ap E (.slice (some ⟨c,0,some f⟩) (xs.length+1) (xs.length+1)) (xs++[a])).p w' S:=by
  intro w' c f cells h1 h2 h3 h4 S hp;refine .inr ⟨c,0,f,_,by rw[fA];rfl,h4,hp.1,hp.2,by rw[fA,fA,h1,hlen,uY,pz,yZ,eT],λk z hk=>?_⟩;by_cases hlt:k<xs.length
  ·rw[kJ hlt]at hk;obtain⟨y',q1,q2⟩:=h2 k z hk;refine⟨y',λj u hj=>?_,q2⟩;rw[eT];have:=q1 j u hj;rw[kJ (bO.1 this).1];exact this
  ·rw[lX (by omega)]at hk;have hk0:k=xs.length:=by
    have:=(bO.1 hk).1;simp at this;omega
   subst hk0;simp at hk;subst hk;refine⟨y,λj u hj=>?_,h3⟩;rw[eT,lX (by omega),h1,JE];exact hj
 obtain⟨S,⟨S1,S2,q,q2,e1⟩,hnd,hown⟩:=l7.own;rcases q with⟨rfl,rfl,rfl⟩|⟨b,o,f,cells,rfl,hf,rfl,hb,hcl,hel⟩
 ·refine QB (c:=0) hn hg hs hx1 hx2 (by simpa using hm) λh' ag vU hnx=>?_;obtain⟨w',rfl,iX⟩:=l7.tail.fresh ag vU hnx;refine r _ w' (iX.xS λS hp=>?_);have hle:∀f∈E.fs a y,f.p w':=λf hf=>iX.facts f (hF.mem f hf);exact put w' _ E.n [] (by simp) (λk z hk=>by cases hk) hle (.inr rfl) S hp
 ·have xU:St B w0 (pt b (.cells cells)::k2) F w:=⟨l7.agree,l7.le,l7.fH,⟨S,⟨_,S2,⟨rfl,hb⟩,q2,e1⟩,hnd,hown⟩,l7.facts⟩
  have EM:At w.h b (.cells cells):=xU.at_ .here;refine Li (old:=cells.drop o) (xs:=E.pat a y) hn hg hs hx1 hx2 ?_ (hf.elim (λe=>.inl (by rw[e])) λe=>.inr (by rw[e])) hm λh' mv=>?_
  ·have hdl:(cells.drop o).length=xs.length*E.n:=by rw[mK];omega
   rw[EM.c.gU,nu,ny,if_pos (by omega),<- hdl,bK]
  obtain⟨w',rfl,iX,xV⟩:=xU.move mv;refine r _ w' (iX.xS λS hp=>?_);have hle:∀f∈E.fs a y,f.p w':=λf hf=>iX.facts f (hF.mem f hf);refine put w' _ E.n (cells.drop o) (by rw[mK];omega) (λk z hk=>?_) hle (.inr rfl) S hp;obtain⟨y',u1,u2⟩:=hel k z hk;exact⟨y',λj u hj=>by rw[mX,<- og];exact u1 j u hj,λf hf=>f.mono xV (u2 f hf)⟩
theorem acr{α:Type}(E:Enc α){e:TypeId}{size bytes b':Nat}{s x:Operand}{v:Value}{xs:List α}(a:α)(y:E.Y){cs:List Value}{k1 k2:List OA}
 (hm:(xs.length+1)*bytes<=1073741824/\(xs.length+1)*size<=1073741824/\xs.length+1<=1073741824)
 (next:∀c,R (λh=>aF P ds rest (act n ((d,.slice (some ⟨c,0,some E.n⟩) (xs.length+1) (xs.length+1))::l) D pm ro) h K) B w0 (ap E (.slice (some ⟨c,0,some E.n⟩) (xs.length+1) (xs.length+1)) (xs++[a])::k2) F)
 (hn:Nat.blt d n=true:=by rfl) (hg:bU l g=true:=by rfl)
 (hs:ev l s=v:=by conv=>lhs;whnf) (hx:ev l x=.slice (some ⟨b',0,some 0⟩) 1 1:=by rfl) (hk:ay (ap E v xs) kl k1:=by exact gD) (hc:ay (pt b' (.cells cs)) k1 k2:=by exact gD) (hp:cs=E.pat a y:=by rfl) (hF:Sub (E.fs a y) F:=by exact lJ) (hz:E.n=size:=by rfl):
 R (λh=>aF P ds (⟨⟨some d,g,.append e size bytes s x⟩,[]⟩::rest) (act n l D pm ro) h K) B w0 kl F:=
 (acp hn hg hs hx hk hc hp hF hz hm).h next
def gv(f:Nat):Option Nat->Nat->Value
 |none,_=>.slice none 0 0
 |some c,n=>.slice (some ⟨c,0,some f⟩) n n
theorem SK{α:Type}{E:Enc α}{c:Option Nat}{xs:List α}{w:Wd}{S:List Nat}(h:(ap E (gv E.n c xs.length) xs).p w S)(h0:0<xs.length):∃b cells,gv E.n c xs.length=.slice (some ⟨b,0,some E.n⟩) xs.length xs.length/\S=[b]/\w.h.get b=some (.cells cells)/\cells.length=xs.length*E.n/\
 ∀(k:Nat) x,xs[k]? =some x->∃y,(∀(j:Nat) u,(E.pat x y)[j]? =some u->cells[k*E.n+j]? =some u)/\∀f∈E.fs x y,f.p w:=by
 rcases h with⟨h,_⟩|⟨b,o,f,cells,h1,h2,h3,h4,h5,h6⟩
 ·rw[h]at h0;simp at h0
 ·cases c with
  |none=>simp[gv]at h1
  |some c=>
   simp only[gv,Value.slice.injEq,aC,Addr.mk.injEq]at h1;obtain⟨⟨rfl,rfl,h1⟩,_⟩:=h1;refine⟨c,cells,rfl,h3,h4,by rw[h5,eT],λk x hk=>?_⟩;obtain⟨y,q1,q2⟩:=h6 k x hk;exact⟨y,λj u hj=>by have:=q1 j u hj;rwa [eT]at this,q2⟩
theorem acs{α:Type}{E:Enc α}{xs:List α}{Q:IH->Prop}(h0:0<xs.length)(hk:ay (ap E (.slice none 0 0) xs) kl kl':=by exact gD):R Q B w0 kl F:=λw s=>by
 obtain⟨S,⟨S1,S2,q1,q2,e⟩,h2,h3⟩:=(s.fV hk).own;obtain⟨b,cells,h,_⟩:=SK (c:=none) q1 h0;simp[gv]at h
end
end Go.Ideal
namespace Go.Ideal
variable {P:Program} {B:List Nat} {w0:Wd} {kl kl' bq:List OA} {F:List aH} {K:KO} {ds:List Tmp} {rest:List bT} {n:Nat} {l:List (Nat×Value)} {D:List Deferred} {pm:Option FrameMode} {ro:Option Nat} {d:Nat} {g:Option (Tmp×Bool)}
theorem SL{α:Type}{E:Enc α}(a b:List (α×E.Y)):bV E (a++b)=bV E a++bV E b:=by unfold bV;rw[Gl]
theorem acu(cs:List Value):jb cs cs.length []=some cs:=by
 have:=SB (cs1:=cs) (cs2:=[]) (xs:=[]) (cz _);simpa using this
theorem SN{re:List gZ}{α:Type}{e:TypeId}{size bytes b f m:Nat}{s x:Operand}{v:Value}(E:Enc α)(az tN:List (α×E.Y))(hmx:m=az.length)(hf0:f=0\/f=E.n)(hm:(m+tN.length)*bytes<=1073741824/\(m+tN.length)*size<=1073741824/\m+tN.length<=1073741824)
 (next:∀b' f' m',m'=(az++tN).length->(f'=0\/f'=E.n)->R (λh=>aF P ds rest (act n ((d,.slice (some ⟨b',0,some f'⟩) m' m')::l) D pm ro) h K) B w0 (pt b' (.cells (bV E (az++tN)))::kl') F)
 (hs:ev l s=.slice (some ⟨b,0,some f⟩) m m:=by rfl) (hx:ev l x=v:=by conv=>lhs;whnf) (hf:oU E v tN∈F:=by exact qI) (hz:E.n=size:=by rfl) (hk:ay (pt b (.cells (bV E az))) kl kl':=by exact gD) (hn:Nat.blt d n=true:=by rfl) (hg:bU l g=true:=by rfl)
 (hsm:∀b' f' m',Same P re (ev ((d,.slice (some ⟨b',0,some f'⟩) m' m')::l)) ((d,.slice (some ⟨b',0,some f'⟩) m' m')::l) B w0 (pt b' (.cells (bV E (az++tN)))::kl') F:=by intro _ _ _;repeat (first|exact zH|refine zI rfl (by repeat (first|with_reducible exact ay.here|with_reducible apply ay.there|with_reducible apply ay.app)) (by first|exact rfl|(conv=>lhs;whnf)) rfl ?_|refine BD rfl (by(repeat (first|with_reducible exact cZ .. |with_reducible apply cO));first|done|fail) (by first|exact rfl|(conv=>lhs;whnf)) rfl ?_|refine BF rfl (by(repeat (first|with_reducible exact cZ .. |with_reducible apply cO));first|done|fail) (by first|exact rfl|(conv=>lhs;whnf)) rfl ?_|refine BG rfl (by repeat (first|with_reducible exact ay.here|with_reducible apply ay.there|with_reducible apply ay.app)) (by first|exact rfl|(conv=>lhs;whnf)) rfl ?_|refine BH rfl (by(repeat (first|with_reducible exact cZ .. |with_reducible apply cO));first|done|fail) (by first|exact rfl|(conv=>lhs;whnf)) rfl ?_|refine BI rfl (by(repeat (first|with_reducible exact cZ .. |with_reducible apply cO));first|done|fail) (by first|exact rfl|(conv=>lhs;whnf)) rfl ?_|refine LF (by first|((with_reducible apply Em);(focus ((conv=>lhs;whnf);(first|done|fail))))|((with_reducible apply En);(focus ((conv=>lhs;whnf);(first|done|fail))))|((with_reducible apply Es);(focus exact rfl))|((with_reducible apply Eu);(focus exact rfl);(focus exact rfl))|((with_reducible apply Ew);(focus exact rfl);(focus exact rfl))|((with_reducible apply Ex);(focus exact rfl);(focus exact rfl))|((with_reducible apply Ey);(focus exact rfl);(focus exact rfl))|((with_reducible apply Ez);(focus exact rfl);(focus exact rfl))|((with_reducible apply EA);(focus exact rfl);(focus exact rfl))|((with_reducible apply Er);(focus exact rfl))|((with_reducible apply Eo);(focus exact rfl);(focus ((conv=>lhs;whnf);(first|done|fail))))|((with_reducible apply Ep);(focus exact rfl);(focus ((conv=>lhs;whnf);(first|done|fail))))|((with_reducible apply EC);(focus exact rfl);(focus ((conv=>lhs;whnf);(first|done|fail))))|((with_reducible apply ED);(focus exact rfl))|((with_reducible apply EE);(focus exact rfl);(focus ((conv=>lhs;whnf);(first|done|fail))))|((with_reducible apply EF);(focus exact rfl);(focus ((conv=>lhs;whnf);(first|done|fail))))|((with_reducible apply EG);(focus ((conv=>lhs;whnf);(first|done|fail))))|((with_reducible apply EH);(focus exact rfl))|((with_reducible apply EI);(focus exact rfl))|((with_reducible apply EJ);(focus exact rfl))|with_reducible exact Et|((with_reducible apply EK);(focus exact rfl);(focus exact rfl);(focus exact rfl))|((with_reducible apply ET);(focus exact rfl);(focus exact rfl);(focus ((omega);(first|done|fail))))|((with_reducible apply BC);(focus exact rfl);(focus exact rfl);(focus ((omega);(first|done|fail)));(focus ((omega);(first|done|fail))))|((with_reducible apply EL);(focus exact rfl);(focus exact rfl);(focus ((omega);(first|done|fail)));(focus ((omega);(first|done|fail))))|((with_reducible apply zF);(focus exact rfl);(focus exact rfl);(focus ((omega);(first|done|fail)));(focus ((omega);(first|done|fail))))|((with_reducible apply EB);(focus exact rfl);(focus exact rfl);(focus ((omega);(first|done|fail)));(focus ((omega);(first|done|fail))))|((with_reducible apply EN);(focus exact rfl);(focus exact rfl);(focus ((first|assumption|kernel_rfl);(first|done|fail))))|((with_reducible apply EO);(focus exact rfl);(focus exact rfl);(focus ((first|assumption|kernel_rfl);(first|done|fail))))|((with_reducible apply EP);(focus exact rfl);(focus exact rfl))|((with_reducible apply EQ);(focus exact rfl);(focus exact rfl))|((with_reducible apply ES);(focus exact rfl);(focus exact rfl);(focus ((omega);(first|done|fail)));(focus ((omega);(first|done|fail))))) rfl ?_)):
 R (λh=>aF P ds (⟨⟨some d,g,.append e size bytes s x⟩,re⟩::rest) (act n l D pm ro) h K) B w0 kl F:=λw st=>by
 subst hz hmx;have st1:=st.fV hk;have hat:At w.h b (.cells (bV E az)):=st.at_ hk;have hfl:=wh az;obtain⟨r1,r2⟩:=SC (st.facts _ hf);by_cases hne:tN=[]
 ·subst hne;rw[gy]at next
  rw[CZ,yU]at hm;have hle:∀{a b:Nat},a<=b->Nat.ble a b=true:=λh=>by rw[pu];exact h
  rw[gy]at hsm;refine Mg hn hg (v:=.slice (some ⟨b,0,some f⟩) az.length az.length) (h':=w.h.set b (.cells (bV E az))) ?_ (hsm b f _ ⟨w.h.set b (.cells (bV E az)),w.z,λi hi=>w.kR i hi⟩ st1.write) (next b f _ rfl hf0 ⟨w.h.set b (.cells (bV E az)),w.z,λi hi=>w.kR i hi⟩ st1.write);have e1:w.h.storeAt b (Nat.add 0 (Nat.mul az.length E.n)) []=some (w.h.set b (.cells (bV E az))):=by
   have e2:jb (bV E az) (Nat.add 0 (Nat.mul az.length E.n)) []=some (bV E az):=by
    rw[show Nat.add 0 (Nat.mul az.length E.n)=(bV E az).length by rw[hfl];exact eT _];exact acu _
   unfold IH.storeAt;simp only[st1.get.1,e2]
  simp only[aB.run,hx,hs,r1,r2,qp];rw[show Nat.add az.length (List.length ([]:List (α×E.Y)))=az.length from rfl,show bV E ([]:List (α×E.Y))=[]from rfl];rw[hle (show Nat.mul az.length bytes<=small from hm.1),hle (show Nat.mul az.length E.n<=small from hm.2.1),hle (show az.length<=small from hm.2.2),hle (bJ az.length)];simp only[C9,cond_true,e1]
 ·obtain⟨k,hk'⟩:∃k,tN.length=k+1:=⟨tN.length - 1,by have:=yX.2 hne;omega⟩
  rw[hk']at r1 r2 hm;refine Sd (b:=b) (o:=0) (m:=az.length) (k:=k) (f:=some f) (old:=bV E az) (xs:=bV E tN) hn hg hs (by rw[hx];exact r1) (by rw[hx];exact r2) ?_ (by rcases hf0 with h|h<;>rw[h];exact .inl rfl;exact .inr rfl) hm (λh' mv=>?_) λh' mv=>?_
  ·rw[hat.c.gU,nu,uX,ny,if_pos (by omega),sH (by omega)]
  ·obtain⟨w',rfl,iX,xV⟩:=st1.move mv;have:=hsm w.h.next E.n (az.length+(k+1))
   rw[SL]at this;exact this w' iX
  obtain⟨w',rfl,iX,xV⟩:=st1.move mv;have:=next w.h.next E.n (az.length+(k+1)) (by rw[fA,hk']) (.inr rfl)
  rw[SL]at this;exact this w' iX
theorem acv{α:Type}(E:Enc α){az:List (α×E.Y)}{rest':List Value}{b f c:Nat}{Q:IH->Prop}(hf:f=0\/f=E.n)(hc:az.length<=c)(h:R Q B w0 kl' (ah E (.slice (some ⟨b,0,some f⟩) az.length c) (az.map (·.1))::F))
 (ha:∀w,(∀f∈F,f.p w)->(p9 E az).p w) (hk:ay (pt b (.cells (bV E az++rest'))) kl kl':=by exact gD):R Q B w0 kl F:=λw s=>by
 have hall:=ha w s.facts;obtain⟨w',hw,s'⟩:=(s.fV hk).freeze (fs:=[⟨λw=>Fz w b (bV E az++rest'),λa h=>h.mono a⟩]) (λw w' S hp hle hh hz g hg=>by
  rw[bH.1 hg];exact⟨hz b (by rw[hp.1];exact bH.2 rfl),.inl (by rw[hh];exact hp.2)⟩)
 have hfz:Fz w' b (bV E az++rest'):=s'.facts _ (cZ ..);have GX:=ha w' λf hf=>s'.facts f (mJ _ hf);rw[<- hw];refine h w' ⟨s'.agree,s'.le,s'.fH,s'.own,λg hg=>?_⟩;rcases dF.1 hg with rfl|hg
 ·refine .inr ⟨b,0,f,c,_,⟨by rw[bR],by rw[bR];exact hc,hf⟩,hfz,λk x hk=>?_⟩;rw[eZ]at hk;cases hp:az[k]? with
  |none=>rw[hp]at hk;cases hk
  |some p=>
   rw[hp]at hk;cases hk;refine⟨p.2,λj u hj=>?_,GX p (bG hp)⟩;have:=wm hp hj;rw[eT,kJ (bO.1 this).1];exact this
 ·exact s'.facts g (mJ _ hg)
theorem acw{ρ:Operand->Value}{x y:Operand}{t:TypeId}{a b:Nat}(hx:ρ x=.int .u64 (a:Int))(hy:ρ y=.int .u64 (b:Int))(hb:0<b):Pu P ρ (.bin .rem t x y) (.int .u64 ((a%b:Nat):Int)):=λh=>by
 have hv:dX P (binOp .rem t (.int .u64 (a:Int)) (.int .u64 (b:Int)))=some (.int .u64 ((a%b:Nat):Int)):=by
  show dX P (Op.intDiv .rem .u64 a b)=_;unfold Op.intDiv;rw[if_neg (by omega)];show some (Value.int .u64 ((a:Int).tmod (b:Int)))=_;rw[show(a:Int).tmod (b:Int)=((a%b:Nat):Int)from(Int.ofNat_tmod a b).symm]
 have h1:jR P (do eqGuard .rem t x y (.int .u64 (a:Int)) (.int .u64 (b:Int));binOp .rem t (.int .u64 (a:Int)) (.int .u64 (b:Int)))=some (.int .u64 ((a%b:Nat):Int)):=by
  unfold jR;rw[gV,zG (by intro c e;cases e) (by intro e;cases e)];simp only[iQ,hv];rfl
 have h2:kL P .rem t x y (.int .u64 (a:Int)) (.int .u64 (b:Int))=some (.int .u64 ((a%b:Nat):Int)):=by
  unfold kL;have:(match pI .u64 .u64 with|true=>ol .rem .u64 (a:Int) (b:Int)|false=>none)=none:=rfl;simp only[pI,bQ,C9,cond];exact h1
 simp only[aB.run,hx,hy,h2]
