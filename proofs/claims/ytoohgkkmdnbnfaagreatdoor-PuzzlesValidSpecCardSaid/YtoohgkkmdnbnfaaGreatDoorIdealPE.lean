/-
  The ideal machine, 82: a call from a heap that is known to the letter, over package variables.
-/
import Derived.Test.YtoohgkkmdnbnfaaGreatDoorIdealOE
import Derived.Lib.Bytealg
import Derived.Lib.Atoi
import Derived.Lib.ConvBytes
import Derived.Shelf.SlSortCmp.WholeK
import Derived.Sort.EncStr
set_option linter.all false
namespace Go.Ideal
noncomputable def JK(g:Nat)(h:IH):Bool:=Bw (λi=>(h.get i).isNone) (List.range g)
theorem Zz{g:Nat}{h:IH}(hh:JK g h=true){i:Nat}(hi:i<g):h.get i=none:=by
 unfold JK at hh;rw[GY,jR]at hh;have:=hh i (yQ.2 hi);cases e:h.get i with
 |none=>rfl
 |some o=>rw[e]at this;cases this
noncomputable def Ff(g:Nat)(l:List (Nat×bQ))(n:Nat)(v:Value):BR:=λr pm h=>
 match pm with
 |some _=>false
 |none=>match r with
  | .ok v'=>kM 50 v v'&&(Nat.beq h.next n&&(Nat.beq h.low g&&(Cw l h&&JK g h)))
  | .dW _=>false
noncomputable def Az(g:Nat)(h0:IH)(l:List (Nat×bQ))(n:Nat)(fn:Nat)(args:List Value)(v:Value):cz->IH->Option (Value×IH):=λq h=>
 match q with
 |⟨.func f,Fg,[],none⟩=>cond (Nat.beq f fn&&(kM 5 (.tuple ⟨args⟩) (.tuple ⟨Fg⟩)&&(Nat.beq h0.next h.next&&(Nat.beq h0.low h.low&&Ao 30 h0.t h.t)))) (some (v,⟨heapT l,n,g⟩)) none
 |_=>none
theorem QW{P:Program}{g:Nat}{h0:IH}{l:List (Nat×bQ)}{n fn:Nat}{args:List Value}{v:Value}(hall:(List.range h0.next).all (λi=>Nat.blt i g||((heapT l).get i).isSome)=true)
 (hc:CALL P ⟨.func fn,args,[],none⟩ h0 (λr pm h'=>Ff g l n v r pm h'=true))
 {q:cz} {h:IH} {v':Value} {h':IH} (hk:Az g h0 l n fn args v q h=some (v',h')):CALL P q h (λr pm h2=>r=.ok v'/\pm=none/\h2=h'):=by
 unfold Az at hk;split at hk
 ·rename_i f Fg;cases hcd:(Nat.beq f fn&&(kM 5 (.tuple ⟨args⟩) (.tuple ⟨Fg⟩)&&(Nat.beq h0.next h.next&&(Nat.beq h0.low h.low&&Ao 30 h0.t h.t))))with
  |false=>rw[hcd]at hk;cases hk
  |true=>
   rw[hcd]at hk;simp only[cond,ay,bH]at hk;obtain⟨rfl,rfl⟩:=hk;simp only[fB]at hcd;obtain⟨h1,h2,h3,h4,h5⟩:=hcd;have h1:=gW h1;subst h1;have h2:=rX _ _ _ h2;injection h2 with h2;injection h2 with h2;subst h2;have e3:=gW h3;have e4:=gW h4;have e5:=Jp _ h5;clear h3 h4 h5;obtain⟨t0,n0,l0⟩:=h0;obtain⟨t1,n1,l1⟩:=h;dsimp only at e3 e4 e5;subst e3 e4 e5;refine .forget _ hc ?_;intro r pm h' hl;unfold Ff at hl;split at hl
   ·cases hl
   ·split at hl
    ·rename_i v';simp only[fB]at hl;obtain⟨h1,h2,h3,h4,h5⟩:=hl;refine⟨⟨heapT l,n,g⟩,(gW h2).symm,(gW h3).symm,?_,?_,rfl,rfl⟩
     ·intro i;rcases IU l i with e|⟨o,e1,e2⟩
      ·by_cases hig:i<g
       ·left;rw[Zz h5 hig];exact e
       refine .inr ⟨?_,e⟩;apply Classical.byContradiction;intro hno;rw[jR]at hall;have:=hall i (yQ.2 (Nat.lt_of_not_le hno));rw[e,wO]at this;rcases this with h|h
       ·exact hig (jd h)
       ·cases h
      ·left;exact e2.trans (Oa h4 i o e1).symm
     ·rw[rX _ _ _ h1]
    ·cases hl
 ·cases hk
theorem ZA{P:Program}{f:FuncId}{fn:Func}(hfn:P.funcs[f]? =some fn){body:Code}(hb:fn.body=some body)(hname:fn.name≠ "runtime.NumGoroutine"){args:List Value}{v:Value}(hv:bD v=true)(ha:args.all bD=true)
 (hC:∀w,Calls P f ⟨args⟩ w λe w'=>e=.returned v/\w'=w) {h:IH}:jJ P ⟨.func f,args,[],none⟩ h (λr pm h2=>pm=none/\r=.ok v/\h2=h):=by
 intro β w fn' args' cap' hG hW hf ha' hcap;obtain⟨iB,t1,t2⟩:=Cs (P:=P) (q:=⟨.func f,args,[],none⟩) (f:=f) (args:=args) (by simp only[target,ig,iX]) hf ha' hcap hfn hb hname w;have e2:=aH.JJ t2 ha;subst e2;refine⟨_,Frame.enter P f ⟨_⟩ .normal,t1,rfl,λcs0 rV=>?_⟩;obtain⟨e,w',fr,⟨he,hw'⟩,hcomes,hfr,hlv⟩:=hC w cs0;subst he hw';exact⟨.ok v,none,h,β,_,.returned v,cs0,⟨rfl,rfl,rfl⟩,hW,Eff.refl _ _ _ hW.dom,.ok (VR.free hv),.none cs0,.inl ⟨f,_,fr,rfl,hcomes,hfr,hlv.2.2.1,hlv.1,hlv.2.1,hlv.2.2.2⟩⟩
noncomputable def Fh(fn:Nat):cz->IH->Option (Value×IH):=λq h=>
 match q with
 |⟨.func f,[.string s,.int .u8 c],[],none⟩=>cond (Nat.beq f fn) (some (.int .i64 (Lib.indexByte s.data.toList c.toNat.toUInt8),h)) none
 |_=>none
theorem ZB{P:Program}{f:FuncId}{fn:Func}(hfn:P.funcs[f]? =some fn){body:Code}(hb:fn.body=some body)(hname:fn.name≠ "runtime.NumGoroutine")
 (hC:∀s c w,Calls P f #[.string s,.int .u8 c] w λe w'=>e=.returned (.int .i64 (Lib.indexByte s.data.toList c.toNat.toUInt8))/\w'=w)
 {q:cz} {h:IH} {v':Value} {h':IH} (hk:Fh f q h=some (v',h')):CALL P q h (λr pm h2=>r=.ok v'/\pm=none/\h2=h'):=by
 unfold Fh at hk;split at hk
 ·rename_i g s c;cases hcd:Nat.beq g f with
  |false=>rw[hcd]at hk;cases hk
  |true=>
   rw[hcd]at hk;have e:=gW hcd;subst e;injection hk with hk;injection hk with h1 h2;subst h1 h2;refine .oK _ (.real (ZA hfn hb hname rfl rfl λw=>hC s c w)) ?_;rintro r pm h2 ⟨a,b,c⟩;exact⟨b,a,c⟩
 ·cases hk
structure Beyond(w w':World):Prop where
 heap:∀b,b<w.heap.size->w'.heap[b]? =w.heap[b]?
 size:w.heap.size<=w'.heap.size
 os:w'.os=w.os
 tape:w'.tape=w.tape
 output:w'.output=w.output
 drawn:w.drawn<=w'.drawn
theorem WR.beyond{P:Program}{β:az}{h:IH}{w w':World}(hW:WR P β h w)(hb:Beyond w w'):WR P β h w'/\Eff β h w β h w':=
 ⟨⟨hW.dom,hW.live,λi g o h1 h2=>(hW.obj i g o h1 h2).congr (hb.heap _ (hW.obj i g o h1 h2).lt),hW.inj⟩,
  ⟨λ_ _=>rfl,bn _,λ_ _ h=>h,λ_ _ _=>rfl,bn _,λ_ _ _=>rfl,hb.os,hb.tape,hb.output,hb.size,λb hb' _=>hb.heap b hb',λi g hg hi=>absurd (hW.dom _ _ hg) (by omega),λi g _ _ _ _ hb'=>hb.heap _ hb',hb.drawn⟩⟩
theorem ZC(w:World)(e:TypeId)(s:ByteArray):Beyond w (Lib.bytesWorld w e s):=by
 refine⟨λb hb=>?_,?_,rfl,rfl,rfl,wM _⟩
 ·show((w.heap.push _).modify w.heap.size _)[b]? =_;rw[Array.getElem?_modify,if_neg (by omega),Bn,if_neg (by omega)]
 ·show w.heap.size<=((w.heap.push _).modify w.heap.size _).size;rw[Array.size_modify,Array.size_push];omega
theorem ZE{P:Program}{f:FuncId}{fn:Func}(hfn:P.funcs[f]? =some fn){body:Code}(hb:fn.body=some body)(hname:fn.name≠ "runtime.NumGoroutine"){args:List Value}{v:Value}(hv:JI v=true)(ha:args.all bD=true)
 (hC:∀w,Calls P f ⟨args⟩ w λe w'=>e=.returned v/\Beyond w w') {h:IH}:jJ P ⟨.func f,args,[],none⟩ h (λr pm h2=>pm=none/\r=.ok v/\h2=h):=by
 intro β w fn' args' cap' hG hW hf ha' hcap;obtain⟨iB,t1,t2⟩:=Cs (P:=P) (q:=⟨.func f,args,[],none⟩) (f:=f) (args:=args) (by simp only[target,ig,iX]) hf ha' hcap hfn hb hname w;have e2:=aH.JJ t2 ha;subst e2;refine⟨_,Frame.enter P f ⟨_⟩ .normal,t1,rfl,λcs0 rV=>?_⟩;obtain⟨e,w',fr,⟨he,hw'⟩,hcomes,hfr,hlv⟩:=hC w cs0;subst he;obtain⟨w1,w2⟩:=hW.beyond hw';exact⟨.ok v,none,h,β,_,.returned v,cs0,⟨rfl,rfl,rfl⟩,w1,w2,.ok (VR.Zy hv),.none cs0,.inl ⟨f,_,fr,rfl,hcomes,hfr,hlv.2.2.1,hlv.1,hlv.2.1,hlv.2.2.2⟩⟩
noncomputable def Fj(fn:Nat):cz->IH->Option (Value×IH):=λq h=>
 match q with
 |⟨.func f,[.string s],[],none⟩=>cond (Nat.beq f fn&&Nat.ble s.data.toList.length 18) (match Lib.atoi s.data.toList with
  |some n=>some (.tuple ⟨[.int .i64 n,.nilIface]⟩,h)
  |none=>none) none
 |_=>none
theorem ZF{P:Program}{f:FuncId}{fn:Func}(hfn:P.funcs[f]? =some fn){body:Code}(hb:fn.body=some body)(hname:fn.name≠ "runtime.NumGoroutine")
 (hC:∀(s:ByteArray) (n:Int),s.size<=18->Lib.atoi s.data.toList=some n->∀w,Calls P f #[.string s] w λe w'=>e=.returned (.tuple #[.int .i64 n,.nilIface])/\Beyond w w')
 {q:cz} {h:IH} {v':Value} {h':IH} (hk:Fj f q h=some (v',h')):CALL P q h (λr pm h2=>r=.ok v'/\pm=none/\h2=h'):=by
 unfold Fj at hk;split at hk
 ·rename_i g s;cases hcd:(Nat.beq g f&&Nat.ble s.data.toList.length 18)with
  |false=>rw[hcd]at hk;cases hk
  |true=>
   rw[hcd]at hk;rw[fB]at hcd;have e:=gW hcd.1;have hl:s.size<=18:=by
    have h2:=jd hcd.2;rw[LP]at h2;exact h2
   subst e;dsimp only[cond]at hk;split at hk
   ·rename_i n hn;injection hk with hk;injection hk with h1 h2;subst h1 h2;refine .oK _ (.real (ZE hfn hb hname rfl rfl λw=>hC s n hl hn w)) ?_;rintro r pm h2 ⟨a,b,c⟩;exact⟨b,a,c⟩
   ·cases hk
 ·cases hk
end Go.Ideal
namespace Go.Ideal
open Go.Sort Go.Proofs Go.RowKit Go.Lib Go.Shelf
variable {P:Program}
theorem Eff.beyond{β β':az}{h h':IH}{w w':World}(hW:WR P β h w)(he:Eff β h w β' h' w')(hl:h'.low=h.next):Beyond w w':=by
 refine⟨λk hk=>?_,he.size,he.os,he.tape,he.output,he.drawn⟩;by_cases hx:∀i g,β i=some g->h.get i≠none->g.b≠k
 ·exact he.keep k hk hx
 ·have hx:∃i g,β i=some g/\h.get i≠none/\g.b=k:=by
   apply Classical.byContradiction;intro hc;exact hx λi g hi hg hb=>hc ⟨i,g,hi,hg,hb⟩
  obtain⟨i,g,hi,hg,rfl⟩:=hx;have hin:=hW.dom i g hi;exact he.oG i g (by rw[hl];exact hin) hin hi hg hk
structure El{X:Type}(β:az)(E:Enc X)(xs:List X)(d:Wd) where
 x:X
 y:E.Y
 v:List Value
 mem:x∈xs
 rel:aH β (E.pat x y) v
 cell:(E.pat x y).all cellV=true
 fs:∀f∈E.fs x y,f.p d
end Go.Ideal
namespace Go.Ideal
open Go.Sort Go.RowKit Go.Proofs
variable {P:Program}
def JL(P:Program)(f:FuncId):Prop:=∀(blk off cap:Nat) (zs:List ByteArray) (w:World),Holds encStr w blk off (zs.map λz=>z.data.toList).toArray->blk<w.heap.size->zs.length<4611686018427387904->
 Calls P f #[.slice (some ⟨blk,off,none⟩) zs.length cap] w λe w'=>e=.returned (.tuple #[])/\∃n os,w'=Go.Sort.grow (putRow encStr (Sort.ahead w n) blk off ((zs.map λz=>z.data.toList).mergeSort λx y=>decide (x<=y)).toArray) os
def AA(zs:List ByteArray):List (List UInt8):=(zs.map λz=>z.data.toList).mergeSort λx y=>decide (x<=y)
def lu(zs:List ByteArray):List ByteArray:=(AA zs).map λl=>⟨⟨l⟩⟩
theorem Fp(zs:List ByteArray):(lu zs).length=zs.length:=by unfold lu AA;rw[bT,List.length_mergeSort,bT]
theorem ZG{f:FuncId}(hS:JL P f){fn:Func}(hfn:P.funcs[f]? =some fn){body:Code}(hb:fn.body=some body)(hname:fn.name≠ "runtime.NumGoroutine"){b o c:Nat}{fl:Option Nat}{zs:List ByteArray}{h h':IH}{cs:List Value}
 (hg:h.get b=some (.cells cs)) (hz:∀(j:Nat) z,zs[j]? =some z->cs[o+j]? =some (.string z)) (hne:0<zs.length) (hlen:zs.length<4611686018427387904) (hs:h.storeAt b o ((lu zs).map .string)=some h'):
 jJ P ⟨.func f,[.slice (some ⟨b,o,fl⟩) zs.length c],[],none⟩ h (λr pm h2=>pm=none/\r=.ok (.tuple ⟨[]⟩)/\h2=h'):=by
 intro β w fn' args' cap' hG hW hf ha hcap;obtain⟨iB,t1,t2⟩:=Cs (P:=P) (q:=⟨.func f,[.slice (some ⟨b,o,fl⟩) zs.length c],[],none⟩) (f:=f) (args:=[.slice (some ⟨b,o,fl⟩) zs.length c]) (by simp only[target,ig,iX]) hf ha hcap hfn hb hname w;cases t2 with|cons hv tl=>
 cases tl;obtain⟨g,a,c',hi,rfl,hab,_,hn,hcc,hao,_⟩:=hv.kP;have hao:a.off=g.off+o/\a.spot=none:=by
  rcases hao with e|e
  ·omega
  ·exact e
 obtain⟨⟨c0,t0,YY,hh⟩,q2,q3,q4,q5,q6⟩:=hW.obj b g _ hi hg;have ea:a=⟨g.b,g.off+o,none⟩:=by
  obtain⟨ab,ao,Fg⟩:=a;simp only at hab hao;rw[hab,hao.1,hao.2]
 subst ea;have hin:∀j,j<zs.length->o+j<cs.length:=λj hj=>(bA.1 (hz j _ (dz hj))).1;have hH:Holds encStr w g.b (g.off+o) (zs.map λz=>z.data.toList).toArray:=λj hj=>by
  have hj:j<zs.length:=by simpa using hj
  obtain⟨v',h1,h2⟩:=q6 (o+j) _ (hz j _ (dz hj));have:=h2.vw;subst this;refine⟨?_,(q4 _ (by have:=hin j hj;omega)).2⟩;rw[mQ,h1];congr 1;rw[getElem!_pos _ j (by simpa using hj)];simp
 have hlt:g.b<w.heap.size:=(LQ.1 hh).1;have hC:=hS g.b (g.off+o) c' zs w hH hlt hlen;obtain⟨_,w1,w2⟩:=Eg hW hi hs (vs':=(lu zs).map .string) (aH.free (by
  have:∀l:List ByteArray,fD (l.map Value.string)=true:=by
   intro l;induction l with
   |nil=>rfl
   |cons x l ih=>rw[fG];simp[fD,bD,Ideal.cellV,ih]
  exact this _)) (by
  rw[jR];intro x hx;obtain⟨z,_,rfl⟩:=ed.1 hx;rfl)
 refine⟨_,Frame.enter P f ⟨_⟩ .normal,t1,rfl,λcs0 rV=>?_⟩;obtain⟨e,w',fr,⟨he,k,os,hw'⟩,hcomes,hfr,hlv⟩:=hC cs0;subst he;have hw1:putRow encStr (Sort.ahead w k) g.b (g.off+o) ((zs.map λz=>z.data.toList).mergeSort λx y=>decide (x<=y)).toArray=Sort.ahead (w.setCells g.b (g.off+o) ((lu zs).map .string)) k:=by
  have:=setCells_putRow encStr w g.b (g.off+o) (AA zs).toArray;rw[show(AA zs).toArray.toList.map encStr=(lu zs).map .string by unfold lu;rw[sU];rfl]at this;rw[this];rfl
 rw[hw1]at hw';have w3:WR P β h' (Sort.ahead (w.setCells g.b (g.off+o) ((lu zs).map .string)) k):=w1.oH rfl;have w4:=w2.trans (Eff.oH (w':=Sort.ahead (w.setCells g.b (g.off+o) ((lu zs).map .string)) k) w1.dom rfl rfl rfl rfl (Nat.le_add_right _ _));obtain⟨w5,w6⟩:=w3.grow os;rw[<- hw']at w5 w6;refine⟨.ok (.tuple ⟨[]⟩),none,h',β,w',.returned (.tuple #[]),cs0,⟨rfl,rfl,rfl⟩,w5,w4.trans w6,.ok (.bZ _),.none cs0,.inl ⟨f,_,fr,rfl,hcomes,hfr,hlv.2.2.1,hlv.1,hlv.2.1,hlv.2.2.2⟩⟩
theorem ZH{f:FuncId}(hS:JL P f){fn:Func}(hfn:P.funcs[f]? =some fn){body:Code}(hb:fn.body=some body)(hname:fn.name≠ "runtime.NumGoroutine"){a:Option Addr}{zs:List ByteArray}(hne:0<zs.length)(hlen:zs.length<4611686018427387904):
 aV P (.func f) [.slice a zs.length zs.length] [] [ap bV (.slice a zs.length zs.length) zs] [] (λ_:Unit=>.tuple ⟨[]⟩) (λ_=>[ap bV (.slice a zs.length zs.length) (lu zs)]) (λ_=>[]) (λ_=>True):=by
 intro B w s;obtain⟨S,⟨S1,S2,q1,q2,e⟩,h2,h3⟩:=s.own;rcases q1 with⟨h,_⟩|⟨b,o,fl,cells,e1,hf,e2,hb',hcl,hel⟩
 ·rw[h]at hne;simp at hne
 injection e1 with e1 Y0;subst e1;have hcl:cells.length=o+zs.length:=by rw[hcl];simp[bV]
 have hz:∀(j:Nat) z,zs[j]? =some z->cells[o+j]? =some (.string z):=λj z hj=>by
  obtain⟨y,u1,_⟩:=hel j z hj;have:=u1 0 (.string z) rfl;simpa[bV]using this
 have hst:∃cs2,w.h.storeAt b o ((lu zs).map .string)=some (w.h.set b (.cells cs2))/\cs2.length=cells.length/\∀(k:Nat) z,(lu zs)[k]? =some z->cs2[o+k]? =some (.string z):=by
  have hov:∃cs2,iQ cells o ((lu zs).map .string)=some cs2:=EX _ _ _ (by rw[bT,Fp];omega);obtain⟨cs2,hl⟩:=hov;obtain⟨l1,l2,l3⟩:=Ee hl;refine⟨cs2,?_,l2,λk z hk=>?_⟩
  ·unfold IH.storeAt;simp only[hb',hl]
  ·rw[l3,if_pos ⟨by omega,by have:=(bA.1 hk).1;rw[bT];omega⟩,Gv,eX,hk];rfl
 obtain⟨cs2,hst,hl2,Jz⟩:=hst;refine .real (Iy _ (ZG hS hfn hb hname hb' hz hne hlen hst) ?_);rintro r pm h' ⟨rfl,rfl,rfl⟩;have s1:St B w [pt b (.cells cells)] [] w:=⟨s.agree,s.le,s.dR,⟨S,⟨S1,S2,⟨e2,hb'⟩,q2,e⟩,h2,h3⟩,λf hf=>by cases hf⟩
 refine⟨rfl,⟨w.h.set b (.cells cs2),w.z,λi hi=>w.kD i hi⟩,(),rfl,?_,rfl,trivial⟩;refine(s1.write (o':=.cells cs2)).zA (A:=pt b (.cells cs2)) λw' S' hp=>?_;refine .inr ⟨b,o,fl,cs2,by rw[Fp],hf,hp.1,hp.2,by rw[hl2,hcl,Fp];simp[bV],λk x hk=>⟨(),λj u hj=>?_,λf hf=>by cases hf⟩⟩;match j,hj with
 |0,hj=>
  cases hj;have:=Jz k x hk;simpa[bV]using this
end Go.Ideal
namespace Go.Ideal
variable {P:Program}
section
variable {B:List Nat} {w0:Wd} {kl kl':List OA} {F:List aB} {K:KO} {ds:List Tmp} {rest:List bz} {n:Nat} {l:List (Nat×Value)} {D:List Deferred} {pm:Option FrameMode} {ro:Option Nat} {d:Nat} {g:Option (Tmp×Bool)}
theorem ZI{α:Type}{E:Enc α}{e:TypeId}{size bytes b':Nat}{s x:Operand}{v:Value}{xs:List α}{a:α}{y:E.Y}{cs:List Value}{k1 k2:List OA}(hn:Nat.blt d n=true)(hg:bE l g=true)
 (hs:ev l s=v) (hx:ev l x=.slice (some ⟨b',0,some 0⟩) 1 1) (hk:aj (ap E v xs) kl k1) (hc:aj (pt b' (.cells cs)) k1 k2) (hp:cs=E.pat a y) (hF:Sub (E.fs a y) F) (hz:E.n=size)
 (hm:(xs.length+1)*bytes<=1073741824/\(xs.length+1)*size<=1073741824/\xs.length+1<=1073741824):
 bN (R (λh=>aD P ds (⟨⟨some d,g,.append e size bytes s x⟩,[]⟩::rest) (act n l D pm ro) h K) B w0 kl F)
  (∀c,R (λh=>aD P ds rest (act n ((d,.slice (some ⟨c,0,some E.n⟩) (xs.length+1) (xs.length+1))::l) D pm ro) h K) B w0 (ap E (.slice (some ⟨c,0,some E.n⟩) (xs.length+1) (xs.length+1)) (xs++[a])::k2) F):=by
 refine⟨λr w st=>?_⟩;subst hp hz;have hlen:=E.len a y;have st2:St B w0 (ap E v xs::pt b' (.cells (E.pat a y))::k2) F w:=st.iC (.cons hk (.cons hc .nil));have hat:At w.h b' (.cells (E.pat a y)):=st2.at_ (.there .here);have kF:St B w0 (ap E v xs::k2) F w:=(st2.fC (.there .here)).tail;have hfs:∀f∈E.fs a y,f.p w:=λf hf=>st.facts f (hF.mem f hf);have hread:w.h.gz b' 0 (1*E.n)=some (E.pat a y):=by
  rw[hat.c.gz,mo,mU,uQ,wQ,if_pos (by omega),<- hlen,eB]
 have hx1:lI (ev l x)=some (0+1):=by rw[hx];rfl
 have hx2:kw E.n (0+1) (ev l x) w.h=some (E.pat a y):=by rw[hx];exact hread
 -- what lies there afterwards
 have put:∀(w':Wd) (c:Nat) (f:Nat) (cells:List Value),cells.length=xs.length*E.n->(∀(k:Nat) z,xs[k]? =some z->∃y,(∀(j:Nat) u,(E.pat z y)[j]? =some u->cells[k*E.n+j]? =some u)/\∀f∈E.fs z y,f.p w')->(∀f∈E.fs a y,f.p w')->
  (f=0\/f=E.n)->∀S,(pt c (.cells (cells++E.pat a y))).p w' S->(ap E (.slice (some ⟨c,0,some f⟩) (xs.length+1) (xs.length+1)) (xs++[a])).p w' S:=by
  intro w' c f cells h1 h2 h3 h4 S hp;refine .inr ⟨c,0,f,_,by rw[fK];rfl,h4,hp.1,hp.2,by rw[fK,fK,h1,hlen,uR,ou,uQ,eG],λk z hk=>?_⟩;by_cases hlt:k<xs.length
  ·rw[l9 hlt]at hk;obtain⟨y',q1,q2⟩:=h2 k z hk;refine⟨y',λj u hj=>?_,q2⟩;rw[eG];have:=q1 j u hj;rw[l9 (bA.1 this).1];exact this
  ·rw[pq (by omega)]at hk;have hk0:k=xs.length:=by
    have:=(bA.1 hk).1;simp at this;omega
   subst hk0;simp at hk;subst hk;refine⟨y,λj u hj=>?_,h3⟩;rw[eG,pq (by omega),h1,Gv];exact hj
 obtain⟨S,⟨S1,S2,q,q2,e1⟩,hnd,hown⟩:=kF.own;rcases q with⟨rfl,rfl,rfl⟩|⟨b,o,f,cells,rfl,hf,rfl,hb,hcl,hel⟩
 ·refine Oj (c:=0) hn hg hs hx1 hx2 (by simpa using hm) λh' ag uk hnx=>?_;obtain⟨w',rfl,iP⟩:=kF.tail.fresh ag uk hnx;refine r _ w' (iP.vL λS hp=>?_);have hle:∀f∈E.fs a y,f.p w':=λf hf=>iP.facts f (hF.mem f hf);exact put w' _ E.n [] (by simp) (λk z hk=>by cases hk) hle (.inr rfl) S hp
 ·have vN:St B w0 (pt b (.cells cells)::k2) F w:=⟨kF.agree,kF.le,kF.dR,⟨S,⟨_,S2,⟨rfl,hb⟩,q2,e1⟩,hnd,hown⟩,kF.facts⟩
  have CE:At w.h b (.cells cells):=vN.at_ .here;refine I4 (old:=cells.drop o) (xs:=E.pat a y) hn hg hs hx1 hx2 ?_ (hf.elim (λe=>.inl (by rw[e])) λe=>.inr (by rw[e])) hm λh' mv=>?_
  ·have hdl:(cells.drop o).length=xs.length*E.n:=by rw[qC];omega
   rw[CE.c.gz,mo,mU,if_pos (by omega),<- hdl,eB]
  obtain⟨w',rfl,iP,Aa⟩:=vN.move mv;refine r _ w' (iP.vL λS hp=>?_);have hle:∀f∈E.fs a y,f.p w':=λf hf=>iP.facts f (hF.mem f hf);refine put w' _ E.n (cells.drop o) (by rw[qC];omega) (λk z hk=>?_) hle (.inr rfl) S hp;obtain⟨y',u1,u2⟩:=hel k z hk;exact⟨y',λj u hj=>by rw[oq,<- mQ];exact u1 j u hj,λf hf=>f.mono Aa (u2 f hf)⟩
theorem ZJ{α:Type}(E:Enc α){e:TypeId}{size bytes b':Nat}{s x:Operand}{v:Value}{xs:List α}(a:α)(y:E.Y){cs:List Value}{k1 k2:List OA}
 (hm:(xs.length+1)*bytes<=1073741824/\(xs.length+1)*size<=1073741824/\xs.length+1<=1073741824)
 (next:∀c,R (λh=>aD P ds rest (act n ((d,.slice (some ⟨c,0,some E.n⟩) (xs.length+1) (xs.length+1))::l) D pm ro) h K) B w0 (ap E (.slice (some ⟨c,0,some E.n⟩) (xs.length+1) (xs.length+1)) (xs++[a])::k2) F)
 (hn:Nat.blt d n=true:=by rfl) (hg:bE l g=true:=by rfl)
 (hs:ev l s=v:=by conv=>lhs;whnf) (hx:ev l x=.slice (some ⟨b',0,some 0⟩) 1 1:=by rfl) (hk:aj (ap E v xs) kl k1:=by exact fE) (hc:aj (pt b' (.cells cs)) k1 k2:=by exact fE) (hp:cs=E.pat a y:=by rfl) (hF:Sub (E.fs a y) F:=by exact jV) (hz:E.n=size:=by rfl):
 R (λh=>aD P ds (⟨⟨some d,g,.append e size bytes s x⟩,[]⟩::rest) (act n l D pm ro) h K) B w0 kl F:=
 (ZI hn hg hs hx hk hc hp hF hz hm).h next
def gv(f:Nat):Option Nat->Nat->Value
 |none,_=>.slice none 0 0
 |some c,n=>.slice (some ⟨c,0,some f⟩) n n
theorem QX{α:Type}{E:Enc α}{c:Option Nat}{xs:List α}{w:Wd}{S:List Nat}(h:(ap E (gv E.n c xs.length) xs).p w S)(h0:0<xs.length):∃b cells,gv E.n c xs.length=.slice (some ⟨b,0,some E.n⟩) xs.length xs.length/\S=[b]/\w.h.get b=some (.cells cells)/\cells.length=xs.length*E.n/\
 ∀(k:Nat) x,xs[k]? =some x->∃y,(∀(j:Nat) u,(E.pat x y)[j]? =some u->cells[k*E.n+j]? =some u)/\∀f∈E.fs x y,f.p w:=by
 rcases h with⟨h,_⟩|⟨b,o,f,cells,h1,h2,h3,h4,h5,h6⟩
 ·rw[h]at h0;simp at h0
 ·cases c with
  |none=>simp[gv]at h1
  |some c=>
   simp only[gv,Value.slice.injEq,ay,Addr.mk.injEq]at h1;obtain⟨⟨rfl,rfl,h1⟩,_⟩:=h1;refine⟨c,cells,rfl,h3,h4,by rw[h5,eG],λk x hk=>?_⟩;obtain⟨y,q1,q2⟩:=h6 k x hk;exact⟨y,λj u hj=>by have:=q1 j u hj;rwa [eG]at this,q2⟩
theorem ZK{α:Type}{E:Enc α}{xs:List α}{Q:IH->Prop}(h0:0<xs.length)(hk:aj (ap E (.slice none 0 0) xs) kl kl':=by exact fE):R Q B w0 kl F:=λw s=>by
 obtain⟨S,⟨S1,S2,q1,q2,e⟩,h2,h3⟩:=(s.fC hk).own;obtain⟨b,cells,h,_⟩:=QX (c:=none) q1 h0;simp[gv]at h
end
end Go.Ideal
namespace Go.Ideal
variable {P:Program} {B:List Nat} {w0:Wd} {kl kl' aR:List OA} {F:List aB} {K:KO} {ds:List Tmp} {rest:List bz} {n:Nat} {l:List (Nat×Value)} {D:List Deferred} {pm:Option FrameMode} {ro:Option Nat} {d:Nat} {g:Option (Tmp×Bool)}
