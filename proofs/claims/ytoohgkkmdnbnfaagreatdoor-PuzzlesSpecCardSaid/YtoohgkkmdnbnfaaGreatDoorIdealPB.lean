/-
  The ideal machine, 82: a call from a heap that is known to the letter, over package variables.
-/
import Derived.Test.YtoohgkkmdnbnfaaGreatDoorIdealOB
import Derived.Lib.Bytealg
import Derived.Lib.Atoi
import Derived.Lib.ConvBytes
import Derived.Shelf.SlSortCmp.WholeK
import Derived.Sort.EncStr
set_option linter.all false
namespace Go.Ideal
noncomputable def Kj(g:Nat)(h:IH):Bool:=Bu (λi=>(h.get i).isNone) (List.range g)
theorem Z4{g:Nat}{h:IH}(hh:Kj g h=true){i:Nat}(hi:i<g):h.get i=none:=by
 unfold Kj at hh;rw[Ig,kH]at hh;have:=hh i (vU.2 hi);cases e:h.get i with
 |none=>rfl
 |some o=>rw[e]at this;cases this
noncomputable def Ga(g:Nat)(l:List (Nat×dz))(n:Nat)(v:Value):BR:=λr pm h=>
 match pm with
 |some _=>false
 |none=>match r with
  | .ok v'=>lM 50 v v'&&(Nat.beq h.next n&&(Nat.beq h.low g&&(Cx l h&&Kj g h)))
  | .fB _=>false
noncomputable def AA(g:Nat)(h0:IH)(l:List (Nat×dz))(n:Nat)(fn:Nat)(args:List Value)(v:Value):dI->IH->Option (Value×IH):=λq h=>
 match q with
 |⟨.func f,Gb,[],none⟩=>cond (Nat.beq f fn&&(lM 5 (.tuple ⟨args⟩) (.tuple ⟨Gb⟩)&&(Nat.beq h0.next h.next&&(Nat.beq h0.low h.low&&Ao 30 h0.t h.t)))) (some (v,⟨heapT l,n,g⟩)) none
 |_=>none
theorem Qz{P:Program}{g:Nat}{h0:IH}{l:List (Nat×dz)}{n fn:Nat}{args:List Value}{v:Value}(hall:(List.range h0.next).all (λi=>Nat.blt i g||((heapT l).get i).isSome)=true)
 (hc:CALL P ⟨.func fn,args,[],none⟩ h0 (λr pm h'=>Ga g l n v r pm h'=true))
 {q:dI} {h:IH} {v':Value} {h':IH} (hk:AA g h0 l n fn args v q h=some (v',h')):CALL P q h (λr pm h2=>r=.ok v'/\pm=none/\h2=h'):=by
 unfold AA at hk;split at hk
 ·rename_i f Gb;cases hcd:(Nat.beq f fn&&(lM 5 (.tuple ⟨args⟩) (.tuple ⟨Gb⟩)&&(Nat.beq h0.next h.next&&(Nat.beq h0.low h.low&&Ao 30 h0.t h.t))))with
  |false=>rw[hcd]at hk;cases hk
  |true=>
   rw[hcd]at hk;simp only[cond,aB,bW]at hk;obtain⟨rfl,rfl⟩:=hk;simp only[fZ]at hcd;obtain⟨h1,h2,h3,h4,h5⟩:=hcd;have h1:=iN h1;subst h1;have h2:=tC _ _ _ h2;injection h2 with h2;injection h2 with h2;subst h2;have e3:=iN h3;have e4:=iN h4;have e5:=JU _ h5;clear h3 h4 h5;obtain⟨t0,n0,l0⟩:=h0;obtain⟨t1,n1,l1⟩:=h;dsimp only at e3 e4 e5;subst e3 e4 e5;refine .forget _ hc ?_;intro r pm h' hl;unfold Ga at hl;split at hl
   ·cases hl
   ·split at hl
    ·rename_i v';simp only[fZ]at hl;obtain⟨h1,h2,h3,h4,h5⟩:=hl;refine⟨⟨heapT l,n,g⟩,(iN h2).symm,(iN h3).symm,?_,?_,rfl,rfl⟩
     ·intro i;rcases Jt l i with e|⟨o,e1,e2⟩
      ·by_cases hig:i<g
       ·left;rw[Z4 h5 hig];exact e
       refine .inr ⟨?_,e⟩;apply Classical.byContradiction;intro hno;rw[kH]at hall;have:=hall i (vU.2 (Nat.lt_of_not_le hno));rw[e,ug]at this;rcases this with h|h
       ·exact hig (jD h)
       ·cases h
      ·left;exact e2.trans (Ov h4 i o e1).symm
     ·rw[tC _ _ _ h1]
    ·cases hl
 ·cases hk
theorem Z5{P:Program}{f:FuncId}{fn:Func}(hfn:P.funcs[f]? =some fn){body:Code}(hb:fn.body=some body)(hname:fn.name≠ "runtime.NumGoroutine"){args:List Value}{v:Value}(hv:bH v=true)(ha:args.all bH=true)
 (hC:∀w,Calls P f ⟨args⟩ w λe w'=>e=.returned v/\w'=w) {h:IH}:j3 P ⟨.func f,args,[],none⟩ h (λr pm h2=>pm=none/\r=.ok v/\h2=h):=by
 intro β w fn' args' cap' hG hW hf ha' hcap;obtain⟨iZ,t1,t2⟩:=Ct (P:=P) (q:=⟨.func f,args,[],none⟩) (f:=f) (args:=args) (by simp only[target,iT,gD]) hf ha' hcap hfn hb hname w;have e2:=aS.Ki t2 ha;subst e2;refine⟨_,Frame.enter P f ⟨_⟩ .normal,t1,rfl,λcs0 tq=>?_⟩;obtain⟨e,w',fr,⟨he,hw'⟩,hcomes,hfr,hlv⟩:=hC w cs0;subst he hw';exact⟨.ok v,none,h,β,_,.returned v,cs0,⟨rfl,rfl,rfl⟩,hW,Eff.refl _ _ _ hW.dom,.ok (VR.free hv),.none cs0,.inl ⟨f,_,fr,rfl,hcomes,hfr,hlv.2.2.1,hlv.1,hlv.2.1,hlv.2.2.2⟩⟩
noncomputable def Gc(fn:Nat):dI->IH->Option (Value×IH):=λq h=>
 match q with
 |⟨.func f,[.string s,.int .u8 c],[],none⟩=>cond (Nat.beq f fn) (some (.int .i64 (Lib.indexByte s.data.toList c.toNat.toUInt8),h)) none
 |_=>none
theorem Z6{P:Program}{f:FuncId}{fn:Func}(hfn:P.funcs[f]? =some fn){body:Code}(hb:fn.body=some body)(hname:fn.name≠ "runtime.NumGoroutine")
 (hC:∀s c w,Calls P f #[.string s,.int .u8 c] w λe w'=>e=.returned (.int .i64 (Lib.indexByte s.data.toList c.toNat.toUInt8))/\w'=w)
 {q:dI} {h:IH} {v':Value} {h':IH} (hk:Gc f q h=some (v',h')):CALL P q h (λr pm h2=>r=.ok v'/\pm=none/\h2=h'):=by
 unfold Gc at hk;split at hk
 ·rename_i g s c;cases hcd:Nat.beq g f with
  |false=>rw[hcd]at hk;cases hk
  |true=>
   rw[hcd]at hk;have e:=iN hcd;subst e;injection hk with hk;injection hk with h1 h2;subst h1 h2;refine .qL _ (.real (Z5 hfn hb hname rfl rfl λw=>hC s c w)) ?_;rintro r pm h2 ⟨a,b,c⟩;exact⟨b,a,c⟩
 ·cases hk
structure Beyond(w w':World):Prop where
 heap:∀b,b<w.heap.size->w'.heap[b]? =w.heap[b]?
 size:w.heap.size<=w'.heap.size
 os:w'.os=w.os
 tape:w'.tape=w.tape
 output:w'.output=w.output
 drawn:w.drawn<=w'.drawn
theorem WR.beyond{P:Program}{β:aC}{h:IH}{w w':World}(hW:WR P β h w)(hb:Beyond w w'):WR P β h w'/\Eff β h w β h w':=
 ⟨⟨hW.dom,hW.live,λi g o h1 h2=>(hW.obj i g o h1 h2).congr (hb.heap _ (hW.obj i g o h1 h2).lt),hW.inj⟩,
  ⟨λ_ _=>rfl,bI _,λ_ _ h=>h,λ_ _ _=>rfl,bI _,λ_ _ _=>rfl,hb.os,hb.tape,hb.output,hb.size,λb hb' _=>hb.heap b hb',λi g hg hi=>absurd (hW.dom _ _ hg) (by omega),λi g _ _ _ _ hb'=>hb.heap _ hb',hb.drawn⟩⟩
theorem Z7(w:World)(e:TypeId)(s:ByteArray):Beyond w (Lib.bytesWorld w e s):=by
 refine⟨λb hb=>?_,?_,rfl,rfl,rfl,xE _⟩
 ·show((w.heap.push _).modify w.heap.size _)[b]? =_;rw[Array.getElem?_modify,if_neg (by omega),Bi,if_neg (by omega)]
 ·show w.heap.size<=((w.heap.push _).modify w.heap.size _).size;rw[Array.size_modify,Array.size_push];omega
theorem Z8{P:Program}{f:FuncId}{fn:Func}(hfn:P.funcs[f]? =some fn){body:Code}(hb:fn.body=some body)(hname:fn.name≠ "runtime.NumGoroutine"){args:List Value}{v:Value}(hv:Kh v=true)(ha:args.all bH=true)
 (hC:∀w,Calls P f ⟨args⟩ w λe w'=>e=.returned v/\Beyond w w') {h:IH}:j3 P ⟨.func f,args,[],none⟩ h (λr pm h2=>pm=none/\r=.ok v/\h2=h):=by
 intro β w fn' args' cap' hG hW hf ha' hcap;obtain⟨iZ,t1,t2⟩:=Ct (P:=P) (q:=⟨.func f,args,[],none⟩) (f:=f) (args:=args) (by simp only[target,iT,gD]) hf ha' hcap hfn hb hname w;have e2:=aS.Ki t2 ha;subst e2;refine⟨_,Frame.enter P f ⟨_⟩ .normal,t1,rfl,λcs0 tq=>?_⟩;obtain⟨e,w',fr,⟨he,hw'⟩,hcomes,hfr,hlv⟩:=hC w cs0;subst he;obtain⟨w1,w2⟩:=hW.beyond hw';exact⟨.ok v,none,h,β,_,.returned v,cs0,⟨rfl,rfl,rfl⟩,w1,w2,.ok (VR.Z0 hv),.none cs0,.inl ⟨f,_,fr,rfl,hcomes,hfr,hlv.2.2.1,hlv.1,hlv.2.1,hlv.2.2.2⟩⟩
noncomputable def Gd(fn:Nat):dI->IH->Option (Value×IH):=λq h=>
 match q with
 |⟨.func f,[.string s],[],none⟩=>cond (Nat.beq f fn&&Nat.ble s.data.toList.length 18) (match Lib.atoi s.data.toList with
  |some n=>some (.tuple ⟨[.int .i64 n,.nilIface]⟩,h)
  |none=>none) none
 |_=>none
theorem Z9{P:Program}{f:FuncId}{fn:Func}(hfn:P.funcs[f]? =some fn){body:Code}(hb:fn.body=some body)(hname:fn.name≠ "runtime.NumGoroutine")
 (hC:∀(s:ByteArray) (n:Int),s.size<=18->Lib.atoi s.data.toList=some n->∀w,Calls P f #[.string s] w λe w'=>e=.returned (.tuple #[.int .i64 n,.nilIface])/\Beyond w w')
 {q:dI} {h:IH} {v':Value} {h':IH} (hk:Gd f q h=some (v',h')):CALL P q h (λr pm h2=>r=.ok v'/\pm=none/\h2=h'):=by
 unfold Gd at hk;split at hk
 ·rename_i g s;cases hcd:(Nat.beq g f&&Nat.ble s.data.toList.length 18)with
  |false=>rw[hcd]at hk;cases hk
  |true=>
   rw[hcd]at hk;rw[fZ]at hcd;have e:=iN hcd.1;have hl:s.size<=18:=by
    have h2:=jD hcd.2;rw[Ms]at h2;exact h2
   subst e;dsimp only[cond]at hk;split at hk
   ·rename_i n hn;injection hk with hk;injection hk with h1 h2;subst h1 h2;refine .qL _ (.real (Z8 hfn hb hname rfl rfl λw=>hC s n hl hn w)) ?_;rintro r pm h2 ⟨a,b,c⟩;exact⟨b,a,c⟩
   ·cases hk
 ·cases hk
end Go.Ideal
namespace Go.Ideal
open Go.Sort Go.Proofs Go.RowKit Go.Lib Go.Shelf
variable {P:Program}
theorem Eff.beyond{β β':aC}{h h':IH}{w w':World}(hW:WR P β h w)(he:Eff β h w β' h' w')(hl:h'.low=h.next):Beyond w w':=by
 refine⟨λk hk=>?_,he.size,he.os,he.tape,he.output,he.drawn⟩;by_cases hx:∀i g,β i=some g->h.get i≠none->g.b≠k
 ·exact he.keep k hk hx
 ·have hx:∃i g,β i=some g/\h.get i≠none/\g.b=k:=by
   apply Classical.byContradiction;intro hc;exact hx λi g hi hg hb=>hc ⟨i,g,hi,hg,hb⟩
  obtain⟨i,g,hi,hg,rfl⟩:=hx;have hin:=hW.dom i g hi;exact he.pM i g (by rw[hl];exact hin) hin hi hg hk
structure El{X:Type}(β:aC)(E:Enc X)(xs:List X)(d:Wd) where
 x:X
 y:E.Y
 v:List Value
 mem:x∈xs
 rel:aS β (E.pat x y) v
 cell:(E.pat x y).all cellV=true
 fs:∀f∈E.fs x y,f.p d
end Go.Ideal
namespace Go.Ideal
open Go.Sort Go.RowKit Go.Proofs
variable {P:Program}
def Kk(P:Program)(f:FuncId):Prop:=∀(blk off cap:Nat) (zs:List ByteArray) (w:World),Holds encStr w blk off (zs.map λz=>z.data.toList).toArray->blk<w.heap.size->zs.length<4611686018427387904->
 Calls P f #[.slice (some ⟨blk,off,none⟩) zs.length cap] w λe w'=>e=.returned (.tuple #[])/\∃n os,w'=Go.Sort.grow (putRow encStr (Sort.ahead w n) blk off ((zs.map λz=>z.data.toList).mergeSort λx y=>decide (x<=y)).toArray) os
def AB(zs:List ByteArray):List (List UInt8):=(zs.map λz=>z.data.toList).mergeSort λx y=>decide (x<=y)
def mi(zs:List ByteArray):List ByteArray:=(AB zs).map λl=>⟨⟨l⟩⟩
theorem Gf(zs:List ByteArray):(mi zs).length=zs.length:=by unfold mi AB;rw[di,List.length_mergeSort,di]
theorem aaa{f:FuncId}(hS:Kk P f){fn:Func}(hfn:P.funcs[f]? =some fn){body:Code}(hb:fn.body=some body)(hname:fn.name≠ "runtime.NumGoroutine"){b o c:Nat}{fl:Option Nat}{zs:List ByteArray}{h h':IH}{cs:List Value}
 (hg:h.get b=some (.cells cs)) (hz:∀(j:Nat) z,zs[j]? =some z->cs[o+j]? =some (.string z)) (hne:0<zs.length) (hlen:zs.length<4611686018427387904) (hs:h.storeAt b o ((mi zs).map .string)=some h'):
 j3 P ⟨.func f,[.slice (some ⟨b,o,fl⟩) zs.length c],[],none⟩ h (λr pm h2=>pm=none/\r=.ok (.tuple ⟨[]⟩)/\h2=h'):=by
 intro β w fn' args' cap' hG hW hf ha hcap;obtain⟨iZ,t1,t2⟩:=Ct (P:=P) (q:=⟨.func f,[.slice (some ⟨b,o,fl⟩) zs.length c],[],none⟩) (f:=f) (args:=[.slice (some ⟨b,o,fl⟩) zs.length c]) (by simp only[target,iT,gD]) hf ha hcap hfn hb hname w;cases t2 with|cons hv tl=>
 cases tl;obtain⟨g,a,c',hi,rfl,hab,_,hn,hcc,hao,_⟩:=hv.lQ;have hao:a.off=g.off+o/\a.spot=none:=by
  rcases hao with e|e
  ·omega
  ·exact e
 obtain⟨⟨c0,t0,Zm,hh⟩,q2,q3,q4,q5,q6⟩:=hW.obj b g _ hi hg;have ea:a=⟨g.b,g.off+o,none⟩:=by
  obtain⟨ab,ao,Gb⟩:=a;simp only at hab hao;rw[hab,hao.1,hao.2]
 subst ea;have hin:∀j,j<zs.length->o+j<cs.length:=λj hj=>(bT.1 (hz j _ (cK hj))).1;have hH:Holds encStr w g.b (g.off+o) (zs.map λz=>z.data.toList).toArray:=λj hj=>by
  have hj:j<zs.length:=by simpa using hj
  obtain⟨v',h1,h2⟩:=q6 (o+j) _ (hz j _ (cK hj));have:=h2.ww;subst this;refine⟨?_,(q4 _ (by have:=hin j hj;omega)).2⟩;rw[ng,h1];congr 1;rw[getElem!_pos _ j (by simpa using hj)];simp
 have hlt:g.b<w.heap.size:=(Mt.1 hh).1;have hC:=hS g.b (g.off+o) c' zs w hH hlt hlen;obtain⟨_,w1,w2⟩:=EU hW hi hs (vs':=(mi zs).map .string) (aS.free (by
  have:∀l:List ByteArray,fw (l.map Value.string)=true:=by
   intro l;induction l with
   |nil=>rfl
   |cons x l ih=>rw[gY];simp[fw,bH,Ideal.cellV,ih]
  exact this _)) (by
  rw[kH];intro x hx;obtain⟨z,_,rfl⟩:=je.1 hx;rfl)
 refine⟨_,Frame.enter P f ⟨_⟩ .normal,t1,rfl,λcs0 tq=>?_⟩;obtain⟨e,w',fr,⟨he,k,os,hw'⟩,hcomes,hfr,hlv⟩:=hC cs0;subst he;have hw1:putRow encStr (Sort.ahead w k) g.b (g.off+o) ((zs.map λz=>z.data.toList).mergeSort λx y=>decide (x<=y)).toArray=Sort.ahead (w.setCells g.b (g.off+o) ((mi zs).map .string)) k:=by
  have:=setCells_putRow encStr w g.b (g.off+o) (AB zs).toArray;rw[show(AB zs).toArray.toList.map encStr=(mi zs).map .string by unfold mi;rw[vW];rfl]at this;rw[this];rfl
 rw[hw1]at hw';have w3:WR P β h' (Sort.ahead (w.setCells g.b (g.off+o) ((mi zs).map .string)) k):=w1.pO rfl;have w4:=w2.trans (Eff.pO (w':=Sort.ahead (w.setCells g.b (g.off+o) ((mi zs).map .string)) k) w1.dom rfl rfl rfl rfl (Nat.le_add_right _ _));obtain⟨w5,w6⟩:=w3.grow os;rw[<- hw']at w5 w6;refine⟨.ok (.tuple ⟨[]⟩),none,h',β,w',.returned (.tuple #[]),cs0,⟨rfl,rfl,rfl⟩,w5,w4.trans w6,.ok (.dG _),.none cs0,.inl ⟨f,_,fr,rfl,hcomes,hfr,hlv.2.2.1,hlv.1,hlv.2.1,hlv.2.2.2⟩⟩
theorem aab{f:FuncId}(hS:Kk P f){fn:Func}(hfn:P.funcs[f]? =some fn){body:Code}(hb:fn.body=some body)(hname:fn.name≠ "runtime.NumGoroutine"){a:Option Addr}{zs:List ByteArray}(hne:0<zs.length)(hlen:zs.length<4611686018427387904):
 aZ P (.func f) [.slice a zs.length zs.length] [] [ap aN (.slice a zs.length zs.length) zs] [] (λ_:Unit=>.tuple ⟨[]⟩) (λ_=>[ap aN (.slice a zs.length zs.length) (mi zs)]) (λ_=>[]) (λ_=>True):=by
 intro B w s;obtain⟨S,⟨S1,S2,q1,q2,e⟩,h2,h3⟩:=s.own;rcases q1 with⟨h,_⟩|⟨b,o,fl,cells,e1,hf,e2,hb',hcl,hel⟩
 ·rw[h]at hne;simp at hne
 injection e1 with e1 Zo;subst e1;have hcl:cells.length=o+zs.length:=by rw[hcl];simp[aN]
 have hz:∀(j:Nat) z,zs[j]? =some z->cells[o+j]? =some (.string z):=λj z hj=>by
  obtain⟨y,u1,_⟩:=hel j z hj;have:=u1 0 (.string z) rfl;simpa[aN]using this
 have hst:∃cs2,w.h.storeAt b o ((mi zs).map .string)=some (w.h.set b (.cells cs2))/\cs2.length=cells.length/\∀(k:Nat) z,(mi zs)[k]? =some z->cs2[o+k]? =some (.string z):=by
  have hov:∃cs2,iL cells o ((mi zs).map .string)=some cs2:=DF _ _ _ (by rw[di,Gf];omega);obtain⟨cs2,hl⟩:=hov;obtain⟨l1,l2,l3⟩:=BK hl;refine⟨cs2,?_,l2,λk z hk=>?_⟩
  ·unfold IH.storeAt;simp only[hb',hl]
  ·rw[l3,if_pos ⟨by omega,by have:=(bT.1 hk).1;rw[di];omega⟩,Hq,eY,hk];rfl
 obtain⟨cs2,hst,hl2,J5⟩:=hst;refine .real (Je _ (aaa hS hfn hb hname hb' hz hne hlen hst) ?_);rintro r pm h' ⟨rfl,rfl,rfl⟩;have s1:St B w [pt b (.cells cells)] [] w:=⟨s.agree,s.le,s.fM,⟨S,⟨S1,S2,⟨e2,hb'⟩,q2,e⟩,h2,h3⟩,λf hf=>by cases hf⟩
 refine⟨rfl,⟨w.h.set b (.cells cs2),w.z,λi hi=>w.j4 i hi⟩,(),rfl,?_,rfl,trivial⟩;refine(s1.write (o':=.cells cs2)).Aa (A:=pt b (.cells cs2)) λw' S' hp=>?_;refine .inr ⟨b,o,fl,cs2,by rw[Gf],hf,hp.1,hp.2,by rw[hl2,hcl,Gf];simp[aN],λk x hk=>⟨(),λj u hj=>?_,λf hf=>by cases hf⟩⟩;match j,hj with
 |0,hj=>
  cases hj;have:=J5 k x hk;simpa[aN]using this
end Go.Ideal
namespace Go.Ideal
variable {P:Program}
section
variable {B:List Nat} {w0:Wd} {kl kl':List OA} {F:List aJ} {K:KO} {ds:List Tmp} {rest:List bO} {n:Nat} {l:List (Nat×Value)} {D:List Deferred} {pm:Option FrameMode} {ro:Option Nat} {d:Nat} {g:Option (Tmp×Bool)}
theorem aac{α:Type}{E:Enc α}{e:TypeId}{size bytes b':Nat}{s x:Operand}{v:Value}{xs:List α}{a:α}{y:E.Y}{cs:List Value}{k1 k2:List OA}(hn:Nat.blt d n=true)(hg:bS l g=true)
 (hs:ev l s=v) (hx:ev l x=.slice (some ⟨b',0,some 0⟩) 1 1) (hk:ay (ap E v xs) kl k1) (hc:ay (pt b' (.cells cs)) k1 k2) (hp:cs=E.pat a y) (hF:Sub (E.fs a y) F) (hz:E.n=size)
 (hm:(xs.length+1)*bytes<=1073741824/\(xs.length+1)*size<=1073741824/\xs.length+1<=1073741824):
 dB (R (λh=>aD P ds (⟨⟨some d,g,.append e size bytes s x⟩,[]⟩::rest) (act n l D pm ro) h K) B w0 kl F)
  (∀c,R (λh=>aD P ds rest (act n ((d,.slice (some ⟨c,0,some E.n⟩) (xs.length+1) (xs.length+1))::l) D pm ro) h K) B w0 (ap E (.slice (some ⟨c,0,some E.n⟩) (xs.length+1) (xs.length+1)) (xs++[a])::k2) F):=by
 refine⟨λr w st=>?_⟩;subst hp hz;have hlen:=E.len a y;have st2:St B w0 (ap E v xs::pt b' (.cells (E.pat a y))::k2) F w:=st.jB (.cons hk (.cons hc .nil));have hat:At w.h b' (.cells (E.pat a y)):=st2.at_ (.there .here);have kZ:St B w0 (ap E v xs::k2) F w:=(st2.fK (.there .here)).tail;have hfs:∀f∈E.fs a y,f.p w:=λf hf=>st.facts f (hF.mem f hf);have hread:w.h.gG b' 0 (1*E.n)=some (E.pat a y):=by
  rw[hat.c.gG,l6,l7,xM,uj,if_pos (by omega),<- hlen,bK]
 have hx1:lZ (ev l x)=some (0+1):=by rw[hx];rfl
 have hx2:kW E.n (0+1) (ev l x) w.h=some (E.pat a y):=by rw[hx];exact hread
 -- what lies there afterwards
 have put:∀(w':Wd) (c:Nat) (f:Nat) (cells:List Value),cells.length=xs.length*E.n->(∀(k:Nat) z,xs[k]? =some z->∃y,(∀(j:Nat) u,(E.pat z y)[j]? =some u->cells[k*E.n+j]? =some u)/\∀f∈E.fs z y,f.p w')->(∀f∈E.fs a y,f.p w')->
  (f=0\/f=E.n)->∀S,(pt c (.cells (cells++E.pat a y))).p w' S->(ap E (.slice (some ⟨c,0,some f⟩) (xs.length+1) (xs.length+1)) (xs++[a])).p w' S:=by
  intro w' c f cells h1 h2 h3 h4 S hp;refine .inr ⟨c,0,f,_,by rw[gB];rfl,h4,hp.1,hp.2,by rw[gB,gB,h1,hlen,uk,ow,xM,eH],λk z hk=>?_⟩;by_cases hlt:k<xs.length
  ·rw[kU hlt]at hk;obtain⟨y',q1,q2⟩:=h2 k z hk;refine⟨y',λj u hj=>?_,q2⟩;rw[eH];have:=q1 j u hj;rw[kU (bT.1 this).1];exact this
  ·rw[mZ (by omega)]at hk;have hk0:k=xs.length:=by
    have:=(bT.1 hk).1;simp at this;omega
   subst hk0;simp at hk;subst hk;refine⟨y,λj u hj=>?_,h3⟩;rw[eH,mZ (by omega),h1,Hq];exact hj
 obtain⟨S,⟨S1,S2,q,q2,e1⟩,hnd,hown⟩:=kZ.own;rcases q with⟨rfl,rfl,rfl⟩|⟨b,o,f,cells,rfl,hf,rfl,hb,hcl,hel⟩
 ·refine OC (c:=0) hn hg hs hx1 hx2 (by simpa using hm) λh' ag uQ hnx=>?_;obtain⟨w',rfl,iK⟩:=kZ.tail.fresh ag uQ hnx;refine r _ w' (iK.wL λS hp=>?_);have hle:∀f∈E.fs a y,f.p w':=λf hf=>iK.facts f (hF.mem f hf);exact put w' _ E.n [] (by simp) (λk z hk=>by cases hk) hle (.inr rfl) S hp
 ·have wM:St B w0 (pt b (.cells cells)::k2) F w:=⟨kZ.agree,kZ.le,kZ.fM,⟨S,⟨_,S2,⟨rfl,hb⟩,q2,e1⟩,hnd,hown⟩,kZ.facts⟩
  have Dh:At w.h b (.cells cells):=wM.at_ .here;refine JB (old:=cells.drop o) (xs:=E.pat a y) hn hg hs hx1 hx2 ?_ (hf.elim (λe=>.inl (by rw[e])) λe=>.inr (by rw[e])) hm λh' mv=>?_
  ·have hdl:(cells.drop o).length=xs.length*E.n:=by rw[lX];omega
   rw[Dh.c.gG,l6,l7,if_pos (by omega),<- hdl,bK]
  obtain⟨w',rfl,iK,wN⟩:=wM.move mv;refine r _ w' (iK.wL λS hp=>?_);have hle:∀f∈E.fs a y,f.p w':=λf hf=>iK.facts f (hF.mem f hf);refine put w' _ E.n (cells.drop o) (by rw[lX];omega) (λk z hk=>?_) hle (.inr rfl) S hp;obtain⟨y',u1,u2⟩:=hel k z hk;exact⟨y',λj u hj=>by rw[mY,<- ng];exact u1 j u hj,λf hf=>f.mono wN (u2 f hf)⟩
theorem aad{α:Type}(E:Enc α){e:TypeId}{size bytes b':Nat}{s x:Operand}{v:Value}{xs:List α}(a:α)(y:E.Y){cs:List Value}{k1 k2:List OA}
 (hm:(xs.length+1)*bytes<=1073741824/\(xs.length+1)*size<=1073741824/\xs.length+1<=1073741824)
 (next:∀c,R (λh=>aD P ds rest (act n ((d,.slice (some ⟨c,0,some E.n⟩) (xs.length+1) (xs.length+1))::l) D pm ro) h K) B w0 (ap E (.slice (some ⟨c,0,some E.n⟩) (xs.length+1) (xs.length+1)) (xs++[a])::k2) F)
 (hn:Nat.blt d n=true:=by rfl) (hg:bS l g=true:=by rfl)
 (hs:ev l s=v:=by conv=>lhs;whnf) (hx:ev l x=.slice (some ⟨b',0,some 0⟩) 1 1:=by rfl) (hk:ay (ap E v xs) kl k1:=by exact gu) (hc:ay (pt b' (.cells cs)) k1 k2:=by exact gu) (hp:cs=E.pat a y:=by rfl) (hF:Sub (E.fs a y) F:=by exact mQ) (hz:E.n=size:=by rfl):
 R (λh=>aD P ds (⟨⟨some d,g,.append e size bytes s x⟩,[]⟩::rest) (act n l D pm ro) h K) B w0 kl F:=
 (aac hn hg hs hx hk hc hp hF hz hm).h next
def gv(f:Nat):Option Nat->Nat->Value
 |none,_=>.slice none 0 0
 |some c,n=>.slice (some ⟨c,0,some f⟩) n n
theorem QA{α:Type}{E:Enc α}{c:Option Nat}{xs:List α}{w:Wd}{S:List Nat}(h:(ap E (gv E.n c xs.length) xs).p w S)(h0:0<xs.length):∃b cells,gv E.n c xs.length=.slice (some ⟨b,0,some E.n⟩) xs.length xs.length/\S=[b]/\w.h.get b=some (.cells cells)/\cells.length=xs.length*E.n/\
 ∀(k:Nat) x,xs[k]? =some x->∃y,(∀(j:Nat) u,(E.pat x y)[j]? =some u->cells[k*E.n+j]? =some u)/\∀f∈E.fs x y,f.p w:=by
 rcases h with⟨h,_⟩|⟨b,o,f,cells,h1,h2,h3,h4,h5,h6⟩
 ·rw[h]at h0;simp at h0
 ·cases c with
  |none=>simp[gv]at h1
  |some c=>
   simp only[gv,Value.slice.injEq,aB,Addr.mk.injEq]at h1;obtain⟨⟨rfl,rfl,h1⟩,_⟩:=h1;refine⟨c,cells,rfl,h3,h4,by rw[h5,eH],λk x hk=>?_⟩;obtain⟨y,q1,q2⟩:=h6 k x hk;exact⟨y,λj u hj=>by have:=q1 j u hj;rwa [eH]at this,q2⟩
theorem aae{α:Type}{E:Enc α}{xs:List α}{Q:IH->Prop}(h0:0<xs.length)(hk:ay (ap E (.slice none 0 0) xs) kl kl':=by exact gu):R Q B w0 kl F:=λw s=>by
 obtain⟨S,⟨S1,S2,q1,q2,e⟩,h2,h3⟩:=(s.fK hk).own;obtain⟨b,cells,h,_⟩:=QA (c:=none) q1 h0;simp[gv]at h
end
end Go.Ideal
namespace Go.Ideal
variable {P:Program} {B:List Nat} {w0:Wd} {kl kl' bA:List OA} {F:List aJ} {K:KO} {ds:List Tmp} {rest:List bO} {n:Nat} {l:List (Nat×Value)} {D:List Deferred} {pm:Option FrameMode} {ro:Option Nat} {d:Nat} {g:Option (Tmp×Bool)}
theorem QB{α:Type}{E:Enc α}(a b:List (α×E.Y)):bP E (a++b)=bP E a++bP E b:=by unfold bP;rw[List.flatMap_append]
theorem aaf(cs:List Value):iL cs cs.length []=some cs:=by
 have:=Qt (cs1:=cs) (cs2:=[]) (xs:=[]) (bX _);simpa using this
theorem QC{re:List gI}{α:Type}{e:TypeId}{size bytes b f m:Nat}{s x:Operand}{v:Value}(E:Enc α)(ax sF:List (α×E.Y))(hmx:m=ax.length)(hf0:f=0\/f=E.n)(hm:(m+sF.length)*bytes<=1073741824/\(m+sF.length)*size<=1073741824/\m+sF.length<=1073741824)
 (next:∀b' f' m',m'=(ax++sF).length->(f'=0\/f'=E.n)->R (λh=>aD P ds rest (act n ((d,.slice (some ⟨b',0,some f'⟩) m' m')::l) D pm ro) h K) B w0 (pt b' (.cells (bP E (ax++sF)))::kl') F)
 (hs:ev l s=.slice (some ⟨b,0,some f⟩) m m:=by rfl) (hx:ev l x=v:=by conv=>lhs;whnf) (hf:nR E v sF∈F:=by exact qO) (hz:E.n=size:=by rfl) (hk:ay (pt b (.cells (bP E ax))) kl kl':=by exact gu) (hn:Nat.blt d n=true:=by rfl) (hg:bS l g=true:=by rfl)
 (hsm:∀b' f' m',Same P re (ev ((d,.slice (some ⟨b',0,some f'⟩) m' m')::l)) ((d,.slice (some ⟨b',0,some f'⟩) m' m')::l) B w0 (pt b' (.cells (bP E (ax++sF)))::kl') F:=by intro _ _ _;repeat (first|exact yH|refine yI rfl (by repeat (first|with_reducible exact ay.here|with_reducible apply ay.there|with_reducible apply ay.app)) (by first|exact rfl|(conv=>lhs;whnf)) rfl ?_|refine Ad rfl (by(repeat (first|with_reducible exact dx .. |with_reducible apply dA));first|done|fail) (by first|exact rfl|(conv=>lhs;whnf)) rfl ?_|refine Ae rfl (by(repeat (first|with_reducible exact dx .. |with_reducible apply dA));first|done|fail) (by first|exact rfl|(conv=>lhs;whnf)) rfl ?_|refine Af rfl (by repeat (first|with_reducible exact ay.here|with_reducible apply ay.there|with_reducible apply ay.app)) (by first|exact rfl|(conv=>lhs;whnf)) rfl ?_|refine Ag rfl (by(repeat (first|with_reducible exact dx .. |with_reducible apply dA));first|done|fail) (by first|exact rfl|(conv=>lhs;whnf)) rfl ?_|refine Ah rfl (by(repeat (first|with_reducible exact dx .. |with_reducible apply dA));first|done|fail) (by first|exact rfl|(conv=>lhs;whnf)) rfl ?_|refine JO (by first|((with_reducible apply CB);(focus ((conv=>lhs;whnf);(first|done|fail))))|((with_reducible apply CE);(focus ((conv=>lhs;whnf);(first|done|fail))))|((with_reducible apply CK);(focus exact rfl))|((with_reducible apply CO);(focus exact rfl);(focus exact rfl))|((with_reducible apply CP);(focus exact rfl);(focus exact rfl))|((with_reducible apply CQ);(focus exact rfl);(focus exact rfl))|((with_reducible apply CR);(focus exact rfl);(focus exact rfl))|((with_reducible apply CS);(focus exact rfl);(focus exact rfl))|((with_reducible apply CU);(focus exact rfl);(focus exact rfl))|((with_reducible apply CJ);(focus exact rfl))|((with_reducible apply CF);(focus exact rfl);(focus ((conv=>lhs;whnf);(first|done|fail))))|((with_reducible apply CG);(focus exact rfl);(focus ((conv=>lhs;whnf);(first|done|fail))))|((with_reducible apply CY);(focus exact rfl);(focus ((conv=>lhs;whnf);(first|done|fail))))|((with_reducible apply CZ);(focus exact rfl))|((with_reducible apply C8);(focus exact rfl);(focus ((conv=>lhs;whnf);(first|done|fail))))|((with_reducible apply C9);(focus exact rfl);(focus ((conv=>lhs;whnf);(first|done|fail))))|((with_reducible apply Da);(focus ((conv=>lhs;whnf);(first|done|fail))))|((with_reducible apply Db);(focus exact rfl))|((with_reducible apply Dc);(focus exact rfl))|((with_reducible apply De);(focus exact rfl))|with_reducible exact CL|((with_reducible apply Df);(focus exact rfl);(focus exact rfl);(focus exact rfl))|((with_reducible apply Dp);(focus exact rfl);(focus exact rfl);(focus ((omega);(first|done|fail))))|((with_reducible apply Ab);(focus exact rfl);(focus exact rfl);(focus ((omega);(first|done|fail)));(focus ((omega);(first|done|fail))))|((with_reducible apply Dg);(focus exact rfl);(focus exact rfl);(focus ((omega);(first|done|fail)));(focus ((omega);(first|done|fail))))|((with_reducible apply yG);(focus exact rfl);(focus exact rfl);(focus ((omega);(first|done|fail)));(focus ((omega);(first|done|fail))))|((with_reducible apply CW);(focus exact rfl);(focus exact rfl);(focus ((omega);(first|done|fail)));(focus ((omega);(first|done|fail))))|((with_reducible apply Di);(focus exact rfl);(focus exact rfl);(focus ((first|assumption|kernel_rfl);(first|done|fail))))|((with_reducible apply Dj);(focus exact rfl);(focus exact rfl);(focus ((first|assumption|kernel_rfl);(first|done|fail))))|((with_reducible apply Dk);(focus exact rfl);(focus exact rfl))|((with_reducible apply Dl);(focus exact rfl);(focus exact rfl))|((with_reducible apply Dn);(focus exact rfl);(focus exact rfl);(focus ((omega);(first|done|fail)));(focus ((omega);(first|done|fail))))) rfl ?_)):
 R (λh=>aD P ds (⟨⟨some d,g,.append e size bytes s x⟩,re⟩::rest) (act n l D pm ro) h K) B w0 kl F:=λw st=>by
 subst hz hmx;have st1:=st.fK hk;have hat:At w.h b (.cells (bP E ax)):=st.at_ hk;have hfl:=uV ax;obtain⟨r1,r2⟩:=Qu (st.facts _ hf);by_cases hne:sF=[]
 ·subst hne;rw[gD]at next
  rw[Bl,xG]at hm;have hle:∀{a b:Nat},a<=b->Nat.ble a b=true:=λh=>by rw[ou];exact h
  rw[gD]at hsm;refine Kb hn hg (v:=.slice (some ⟨b,0,some f⟩) ax.length ax.length) (h':=w.h.set b (.cells (bP E ax))) ?_ (hsm b f _ ⟨w.h.set b (.cells (bP E ax)),w.z,λi hi=>w.j4 i hi⟩ st1.write) (next b f _ rfl hf0 ⟨w.h.set b (.cells (bP E ax)),w.z,λi hi=>w.j4 i hi⟩ st1.write);have e1:w.h.storeAt b (Nat.add 0 (Nat.mul ax.length E.n)) []=some (w.h.set b (.cells (bP E ax))):=by
   have e2:iL (bP E ax) (Nat.add 0 (Nat.mul ax.length E.n)) []=some (bP E ax):=by
    rw[show Nat.add 0 (Nat.mul ax.length E.n)=(bP E ax).length by rw[hfl];exact eH _];exact aaf _
   unfold IH.storeAt;simp only[st1.get.1,e2]
  simp only[aA.run,hx,hs,r1,r2,pE];rw[show Nat.add ax.length (List.length ([]:List (α×E.Y)))=ax.length from rfl,show bP E ([]:List (α×E.Y))=[]from rfl];rw[hle (show Nat.mul ax.length bytes<=small from hm.1),hle (show Nat.mul ax.length E.n<=small from hm.2.1),hle (show ax.length<=small from hm.2.2),hle (bI ax.length)];simp only[EB,cond_true,e1]
 ·obtain⟨k,hk'⟩:∃k,sF.length=k+1:=⟨sF.length - 1,by have:=xI.2 hne;omega⟩
  rw[hk']at r1 r2 hm;refine Qe (b:=b) (o:=0) (m:=ax.length) (k:=k) (f:=some f) (old:=bP E ax) (xs:=bP E sF) hn hg hs (by rw[hx];exact r1) (by rw[hx];exact r2) ?_ (by rcases hf0 with h|h<;>rw[h];exact .inl rfl;exact .inr rfl) hm (λh' mv=>?_) λh' mv=>?_
  ·rw[hat.c.gG,l6,uj,l7,if_pos (by omega),rG (by omega)]
  ·obtain⟨w',rfl,iK,wN⟩:=st1.move mv;have:=hsm w.h.next E.n (ax.length+(k+1))
   rw[QB]at this;exact this w' iK
  obtain⟨w',rfl,iK,wN⟩:=st1.move mv;have:=next w.h.next E.n (ax.length+(k+1)) (by rw[gB,hk']) (.inr rfl)
  rw[QB]at this;exact this w' iK
theorem aag{α:Type}(E:Enc α){ax:List (α×E.Y)}{rest':List Value}{b f c:Nat}{Q:IH->Prop}(hf:f=0\/f=E.n)(hc:ax.length<=c)(h:R Q B w0 kl' (ah E (.slice (some ⟨b,0,some f⟩) ax.length c) (ax.map (·.1))::F))
 (ha:∀w,(∀f∈F,f.p w)->(oO E ax).p w) (hk:ay (pt b (.cells (bP E ax++rest'))) kl kl':=by exact gu):R Q B w0 kl F:=λw s=>by
 have hall:=ha w s.facts;obtain⟨w',hw,s'⟩:=(s.fK hk).freeze (fs:=[⟨λw=>Fz w b (bP E ax++rest'),λa h=>h.mono a⟩]) (λw w' S hp hle hh hz g hg=>by
  rw[bG.1 hg];exact⟨hz b (by rw[hp.1];exact bG.2 rfl),.inl (by rw[hh];exact hp.2)⟩)
 have hfz:Fz w' b (bP E ax++rest'):=s'.facts _ (dx ..);have Ff:=ha w' λf hf=>s'.facts f (ni _ hf);rw[<- hw];refine h w' ⟨s'.agree,s'.le,s'.fM,s'.own,λg hg=>?_⟩;rcases dF.1 hg with rfl|hg
 ·refine .inr ⟨b,0,f,c,_,⟨by rw[di],by rw[di];exact hc,hf⟩,hfz,λk x hk=>?_⟩;rw[eY]at hk;cases hp:ax[k]? with
  |none=>rw[hp]at hk;cases hk
  |some p=>
   rw[hp]at hk;cases hk;refine⟨p.2,λj u hj=>?_,Ff p (bJ hp)⟩;have:=uW hp hj;rw[eH,kU (bT.1 this).1];exact this
 ·exact s'.facts g (ni _ hg)
