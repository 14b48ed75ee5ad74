/- Part. -/
import Derived.Test.YtignbinlipkmfaaGreatDoorIdealNK
import Derived.Lib.Bytealg
import Derived.Lib.Atoi
import Derived.Lib.ConvBytes
import Derived.Sort.EncStr
set_option linter.all false
namespace Go.Ideal
variable{P:Program}{f:iI}{fn:Func}
def agE(hfn:P.funcs[f]? =some fn){body:Code}(hb:fn.body=some body)(hname:fn.name≠ "runtime.NumGoroutine"){args:ae ah}{v:ah}(hv:cz v=true)(ha:args.all cz=true)
 (hC:∀w,Calls P f ⟨args⟩ w λe w'=>e=.returned v/\w'=w) {h:IH}:mD P ⟨.func f,args,[],none⟩ h (λr pm h2=>pm=none/\r=.ok v/\h2=h):=by
 intro β w fn' args' cap' hG hW hf ha' hcap;obtain⟨jZ,t1,t2⟩:=FD (P:=P) (q:=⟨.func f,args,[],none⟩) (f:=f) (args:=args) zc hf ha' hcap hfn hb hname w;have e2:=aZ.O6 t2 ha;subst e2;refine⟨_,Frame.enter P f ⟨_⟩ .normal,t1,rfl,λcs0 xu=>?_⟩;obtain⟨e,w',fr,⟨he,hw'⟩,hcomes,hfr,hlv⟩:=hC w cs0;subst he hw';exact⟨.ok v,none,h,β,_,.returned v,cs0,⟨rfl,rfl,rfl⟩,hW,Eff.refl _ _ _ hW.dom,.ok (VR.free hv),.none cs0,.inl ⟨f,_,fr,rfl,hcomes,hfr,hlv.2.2.1,hlv.1,hlv.2.1,hlv.2.2.2⟩⟩
noncomputable def Kc(fn:Nat):bA->IH->ak (ah×IH):=λq h=>
 match q with
 |⟨.func f,[.string s,.int .u8 c],[],none⟩=>cond (Nat.beq f fn) (some (.int .i64 (Lib.indexByte s.data.toList c.toNat.toUInt8),h)) none
 |_=>none
def agF(hfn:P.funcs[f]? =some fn){body:Code}(hb:fn.body=some body)(hname:fn.name≠ "runtime.NumGoroutine")
 (hC:∀s c w,Calls P f #[.string s,.int .u8 c] w λe w'=>e=.returned (.int .i64 (Lib.indexByte s.data.toList c.toNat.toUInt8))/\w'=w)
 {q:bA} {h:IH} {v':ah} {h':IH} (hk:Kc f q h=some (v',h')):CALL P q h (λr pm h2=>r=.ok v'/\pm=none/\h2=h'):=by
 unfold Kc at hk;split at hk
 .rename_i g s c;cases hcd:Nat.beq g f with
  |false=>rw[hcd]at hk;cases hk
  |true=>
   rw[hcd]at hk;have e:=jG hcd;subst e;injection hk with hk;injection hk with h1 h2;subst h1 h2;refine .kv _ (.real (agE hfn hb hname rfl rfl λw=>hC s c w)) ?_;rintro r pm h2 ⟨a,b,c⟩;exact⟨b,a,c⟩
 .cases hk
structure Beyond(w w':World):Prop where
 heap:∀b,b<w.heap.size->w'.heap[b]? =w.heap[b]?
 size:w.heap.size<=w'.heap.size
 os:w'.os=w.os
 tape:w'.tape=w.tape
 output:w'.output=w.output
 drawn:w.drawn<=w'.drawn
def WR.beyond{β:aI}{h:IH}{w w':World}(hW:WR P β h w)(hb:Beyond w w'):WR P β h w'/\Eff β h w β h w':=
 ⟨⟨hW.dom,hW.live,λi g o h1 h2=>(hW.obj i g o h1 h2).congr (hb.heap _ (hW.obj i g o h1 h2).lt),hW.inj⟩,
  ⟨λ_ _=>rfl,bQ _,λ_ _ h=>h,λ_ _ _=>rfl,bQ _,λ_ _ _=>rfl,hb.os,hb.tape,hb.output,hb.size,λb hb' _=>hb.heap b hb',λi g hg hi=>absurd (hW.dom _ _ hg) tr,λi g _ _ _ _ hb'=>hb.heap _ hb',hb.drawn⟩⟩
def agG(w:World)(e:aC)(s:ByteArray):Beyond w (Lib.bytesWorld w e s):=by
 refine⟨λb hb=>?_,?_,rfl,rfl,rfl,AP _⟩
 .show((w.heap.push _).modify w.heap.size _)[b]? =_;rw[Array.getElem?_modify,if_neg tr,EA,if_neg tr]
 .show w.heap.size<=((w.heap.push _).modify w.heap.size _).size;rw[Array.size_modify,Array.size_push];omega
def agH(hfn:P.funcs[f]? =some fn){body:Code}(hb:fn.body=some body)(hname:fn.name≠ "runtime.NumGoroutine"){args:ae ah}{v:ah}(hv:O5 v=true)(ha:args.all cz=true)
 (hC:∀w,Calls P f ⟨args⟩ w λe w'=>e=.returned v/\Beyond w w') {h:IH}:mD P ⟨.func f,args,[],none⟩ h (λr pm h2=>pm=none/\r=.ok v/\h2=h):=by
 intro β w fn' args' cap' hG hW hf ha' hcap;obtain⟨jZ,t1,t2⟩:=FD (P:=P) (q:=⟨.func f,args,[],none⟩) (f:=f) (args:=args) zc hf ha' hcap hfn hb hname w;have e2:=aZ.O6 t2 ha;subst e2;refine⟨_,Frame.enter P f ⟨_⟩ .normal,t1,rfl,λcs0 xu=>?_⟩;obtain⟨e,w',fr,⟨he,hw'⟩,hcomes,hfr,hlv⟩:=hC w cs0;subst he;obtain⟨w1,w2⟩:=hW.beyond hw';exact⟨.ok v,none,h,β,_,.returned v,cs0,⟨rfl,rfl,rfl⟩,w1,w2,.ok (VR.agD hv),.none cs0,.inl ⟨f,_,fr,rfl,hcomes,hfr,hlv.2.2.1,hlv.1,hlv.2.1,hlv.2.2.2⟩⟩
noncomputable def Ke(fn:Nat):bA->IH->ak (ah×IH):=λq h=>
 match q with
 |⟨.func f,[.string s],[],none⟩=>cond (Nat.beq f fn&&Nat.ble s.data.toList.length 18) (match Lib.atoi s.data.toList with
  |some n=>some (.tuple ⟨[.int .i64 n,.nilIface]⟩,h)
  |none=>none) none
 |_=>none
def agI(hfn:P.funcs[f]? =some fn){body:Code}(hb:fn.body=some body)(hname:fn.name≠ "runtime.NumGoroutine")
 (hC:∀(s:ByteArray) (n:Int),s.size<=18->Lib.atoi s.data.toList=some n->∀w,Calls P f #[.string s] w λe w'=>e=.returned (.tuple #[.int .i64 n,.nilIface])/\Beyond w w')
 {q:bA} {h:IH} {v':ah} {h':IH} (hk:Ke f q h=some (v',h')):CALL P q h (λr pm h2=>r=.ok v'/\pm=none/\h2=h'):=by
 unfold Ke at hk;split at hk
 .rename_i g s;cases hcd:(Nat.beq g f&&Nat.ble s.data.toList.length 18)with
  |false=>rw[hcd]at hk;cases hk
  |true=>
   rw[hcd]at hk;rw[dI]at hcd;have e:=jG hcd.1;have hl:s.size<=18:=by
    have h2:=lQ hcd.2;rw[Ry]at h2;exact h2
   subst e;dsimp only[cond]at hk;split at hk
   .rename_i n hn;injection hk with hk;injection hk with h1 h2;subst h1 h2;refine .kv _ (.real (agH hfn hb hname rfl rfl λw=>hC s n hl hn w)) ?_;rintro r pm h2 ⟨a,b,c⟩;exact⟨b,a,c⟩
   .cases hk
 .cases hk
end Go.Ideal
namespace Go.Ideal
open Go.Sort Go.RowKit Go.Proofs
variable {P:Program}
def O7(P:Program)(f:iI):Prop:=∀(blk off cap:Nat) (zs:ae ByteArray) (w:World),Holds encStr w blk off (zs.map λz=>z.data.toList).toArray->blk<w.heap.size->zs.length<4611686018427387904->
 Calls P f #[.slice (some ⟨blk,off,none⟩) zs.length cap] w λe w'=>e=.returned (.tuple #[])/\∃n os,w'=Go.Sort.grow (putRow encStr (Sort.ahead w n) blk off ((zs.map λz=>z.data.toList).mergeSort λx y=>decide (x<=y)).toArray) os
def DT(zs:ae ByteArray):ae (ae UInt8):=(zs.map λz=>z.data.toList).mergeSort λx y=>decide (x<=y)
def o9(zs:ae ByteArray):ae ByteArray:=(DT zs).map λl=>⟨⟨l⟩⟩
def Kg(zs:ae ByteArray):(o9 zs).length=zs.length:=by unfold o9 DT;rw[bZ,List.length_mergeSort,bZ]
variable{f:iI}
def agJ(hS:O7 P f){fn:Func}(hfn:P.funcs[f]? =some fn){body:Code}(hb:fn.body=some body)(hname:fn.name≠ "runtime.NumGoroutine"){b o c:Nat}{fl:ak Nat}{zs:ae ByteArray}{h h':IH}{cs:ae ah}
 (hg:h.get b=some (.cells cs)) (hz:∀(j:Nat) z,zs[j]? =some z->cs[o+j]? =some (.string z)) (hne:0<zs.length) (hlen:zs.length<4611686018427387904) (hs:h.storeAt b o ((o9 zs).map .string)=some h'):
 mD P ⟨.func f,[.slice (some ⟨b,o,fl⟩) zs.length c],[],none⟩ h (λr pm h2=>pm=none/\r=.ok (.tuple ⟨[]⟩)/\h2=h'):=by
 intro β w fn' args' cap' hG hW hf ha hcap;obtain⟨jZ,t1,t2⟩:=FD (P:=P) (q:=⟨.func f,[.slice (some ⟨b,o,fl⟩) zs.length c],[],none⟩) (f:=f) (args:=[.slice (some ⟨b,o,fl⟩) zs.length c]) zc hf ha hcap hfn hb hname w;cases t2 with|cons hv tl=>
 cases tl;obtain⟨g,a,c',hi,rfl,hab,_,hn,hcc,hao,_⟩:=hv.ow;have hao:a.off=g.off+o/\a.spot=none:=by
  rcases hao with e|e
  .omega
  .exact e
 obtain⟨⟨c0,t0,fz0,hh⟩,q2,q3,q4,q5,q6⟩:=hW.obj b g _ hi hg;have ea:a=⟨g.b,g.off+o,none⟩:=by
  obtain⟨ab,ao,Kh⟩:=a;simp only at hab hao;rw[hab,hao.1,hao.2]
 subst ea;have hin:∀j,j<zs.length->o+j<cs.length:=λj hj=>(bC.1 (hz j _ (bX hj))).1;have hH:Holds encStr w g.b (g.off+o) (zs.map λz=>z.data.toList).toArray:=λj hj=>by
  have hj:j<zs.length:=zd
  obtain⟨v',h1,h2⟩:=q6 (o+j) _ (hz j _ (bX hj));have:=h2.zK;subst this;refine⟨?_,(q4 _ (by have:=hin j hj;omega)).2⟩;rw[oM,h1];congr 1;rw[getElem!_pos _ j zd];simp
 have hlt:g.b<w.heap.size:=(Rz.1 hh).1;have hC:=hS g.b (g.off+o) c' zs w hH hlt hlen;obtain⟨_,w1,w2⟩:=Iw hW hi hs (vs':=(o9 zs).map .string) (aZ.free (by
  have:∀l:ae ByteArray,gu (l.map Value.string)=true:=by
   exact pe
  exact this _)) (by
  exact sC)
 refine⟨_,Frame.enter P f ⟨_⟩ .normal,t1,rfl,λcs0 xu=>?_⟩;obtain⟨e,w',fr,⟨he,k,os,hw'⟩,hcomes,hfr,hlv⟩:=hC cs0;subst he;have hw1:putRow encStr (Sort.ahead w k) g.b (g.off+o) ((zs.map λz=>z.data.toList).mergeSort λx y=>decide (x<=y)).toArray=Sort.ahead (w.setCells g.b (g.off+o) ((o9 zs).map .string)) k:=by
  have:=setCells_putRow encStr w g.b (g.off+o) (DT zs).toArray;rw[show(DT zs).toArray.toList.map encStr=(o9 zs).map .string by unfold o9;rw[uy];rfl]at this;rw[this];rfl
 rw[hw1]at hw';have w3:WR P β h' (Sort.ahead (w.setCells g.b (g.off+o) ((o9 zs).map .string)) k):=w1.sU rfl;have w4:=w2.trans (Eff.sU (w':=Sort.ahead (w.setCells g.b (g.off+o) ((o9 zs).map .string)) k) w1.dom rfl rfl rfl rfl (Nat.le_add_right _ _));obtain⟨w5,w6⟩:=w3.grow os;rw[<- hw']at w5 w6;refine⟨.ok (.tuple ⟨[]⟩),none,h',β,w',.returned (.tuple #[]),cs0,⟨rfl,rfl,rfl⟩,w5,w4.trans w6,.ok (.dR _),.none cs0,.inl ⟨f,_,fr,rfl,hcomes,hfr,hlv.2.2.1,hlv.1,hlv.2.1,hlv.2.2.2⟩⟩
def agK(hS:O7 P f){fn:Func}(hfn:P.funcs[f]? =some fn){body:Code}(hb:fn.body=some body)(hname:fn.name≠ "runtime.NumGoroutine"){a:ak Addr}{zs:ae ByteArray}(hne:0<zs.length)(hlen:zs.length<4611686018427387904):
 cK P (.func f) [.slice a zs.length zs.length] [] [ap aV (.slice a zs.length zs.length) zs] [] (λ_:Unit=>.tuple ⟨[]⟩) (λ_=>[ap aV (.slice a zs.length zs.length) (o9 zs)]) (λ_=>[]) (λ_=>True):=by
 intro B w s;obtain⟨S,⟨S1,S2,q1,q2,e⟩,h2,h3⟩:=s.own;rcases q1 with⟨h,_⟩|⟨b,o,fl,cells,e1,hf,e2,hb',hcl,hel⟩
 .rw[h]at hne;simp at hne
 injection e1 with e1 e1';subst e1;have hcl:cells.length=o+zs.length:=by rw[hcl];simp[aV]
 have hz:∀(j:Nat) z,zs[j]? =some z->cells[o+j]? =some (.string z):=λj z hj=>by
  obtain⟨y,u1,_⟩:=hel j z hj;have:=u1 0 (.string z) rfl;simpa[aV]using this
 have hst:∃cs2,w.h.storeAt b o ((o9 zs).map .string)=some (w.h.set b (.cells cs2))/\cs2.length=cells.length/\∀(k:Nat) z,(o9 zs)[k]? =some z->cs2[o+k]? =some (.string z):=by
  have hov:∃cs2,kG cells o ((o9 zs).map .string)=some cs2:=JZ _ _ _ (by rw[bZ,Kg];omega);exact eK
 obtain⟨cs2,hst,hl2,OY⟩:=hst;refine .real (NL _ (agJ hS hfn hb hname hb' hz hne hlen hst) ?_);rintro r pm h' ⟨rfl,rfl,rfl⟩;have s1:St B w [pt b (.cells cells)] [] w:=⟨s.agree,s.le,s.ig,⟨S,⟨S1,S2,⟨e2,hb'⟩,q2,e⟩,h2,h3⟩,λf hf=>by cases hf⟩
 refine⟨rfl,⟨w.h.set b (.cells cs2),w.z,λi hi=>w.nP i hi⟩,(),rfl,?_,rfl,trivial⟩;refine(s1.write (o':=.cells cs2)).BA (A:=pt b (.cells cs2)) λw' S' hp=>?_;refine .inr ⟨b,o,fl,cs2,by rw[Kg],hf,hp.1,hp.2,by rw[hl2,hcl,Kg];simp[aV],λk x hk=>⟨(),λj u hj=>?_,λf hf=>by cases hf⟩⟩;match j,hj with
 |0,hj=>
  cases hj;have:=OY k x hk;simpa[aV]using this
end Go.Ideal
namespace Go.Ideal
variable {P:Program}
section
variable {B:ae Nat} {w0:Wd} {kl kl':ae OA} {F:ae aP} {K:KO} {ds:ae Tmp} {rest:ae bY} {n:Nat} {l:qr} {D:ae Deferred} {pm:ak FrameMode} {ro:ak Nat} {d:Nat} {g:ak (Tmp×Bool)}
variable{α:Type}
def agL{E:Enc α}{e:aC}{size bytes b':Nat}{s x:ay}{v:ah}{xs:ae α}{a:α}{y:E.Y}{cs:ae ah}{k1 k2:ae OA}(hn:Nat.blt d n=true)(hg:cO l g=true)
 (hs:ev l s=v) (hx:ev l x=.slice (some ⟨b',0,some 0⟩) 1 1) (hk:aD (ap E v xs) kl k1) (hc:aD (pt b' (.cells cs)) k1 k2) (hp:cs=E.pat a y) (hF:Sub (E.fs a y) F) (hz:E.n=size)
 (hm:(xs.length+1)*bytes<=1073741824/\(xs.length+1)*size<=1073741824/\xs.length+1<=1073741824):
 dz (R (λh=>aJ P ds (⟨⟨some d,g,.append e size bytes s x⟩,[]⟩::rest) (act n l D pm ro) h K) B w0 kl F)
  (∀c,R (λh=>aJ P ds rest (act n ((d,.slice (some ⟨c,0,some E.n⟩) (xs.length+1) (xs.length+1))::l) D pm ro) h K) B w0 (ap E (.slice (some ⟨c,0,some E.n⟩) (xs.length+1) (xs.length+1)) (xs++[a])::k2) F):=by
 refine⟨λr w st=>?_⟩;subst hp hz;have hlen:=E.len a y;have st2:St B w0 (ap E v xs::pt b' (.cells (E.pat a y))::k2) F w:=st.kV (.cons hk (.cons hc .nil));have hat:At w.h b' (.cells (E.pat a y)):=st2.at_ (.there .here);have nQ:St B w0 (ap E v xs::k2) F w:=(st2.iw (.there .here)).tail;have hfs:∀f∈E.fs a y,f.p w:=λf hf=>st.facts f (hF.mem f hf);have hread:w.h.jh b' 0 (1*E.n)=some (E.pat a y):=by
  exact mA
 have hx1:pM (ev l x)=some (0+1):=by rw[hx];rfl
 have hx2:nJ E.n (0+1) (ev l x) w.h=some (E.pat a y):=AT
 have put:∀(w':Wd) (c:Nat) (f:Nat) (cells:ae ah),cells.length=xs.length*E.n->(∀(k:Nat) z,xs[k]? =some z->∃y,(∀(j:Nat) u,(E.pat z y)[j]? =some u->cells[k*E.n+j]? =some u)/\∀f∈E.fs z y,f.p w')->(∀f∈E.fs a y,f.p w')->
  (f=0\/f=E.n)->∀S,(pt c (.cells (cells++E.pat a y))).p w' S->(ap E (.slice (some ⟨c,0,some f⟩) (xs.length+1) (xs.length+1)) (xs++[a])).p w' S:=by
  intro w' c f cells h1 h2 h3 h4 S hp;refine .inr ⟨c,0,f,_,by rw[ik];rfl,h4,hp.1,hp.2,by rw[ik,ik,h1,hlen,vI,sM,zy,fq],λk z hk=>?_⟩;by_cases hlt:k<xs.length
  .exact de
  .exact cS
 obtain⟨S,⟨S1,S2,q,q2,e1⟩,hnd,hown⟩:=nQ.own;rcases q with⟨rfl,rfl,rfl⟩|⟨b,o,f,cells,rfl,hf,rfl,hb,hcl,hel⟩
 .exact cV
 .exact cw
def agM(E:Enc α){e:aC}{size bytes b':Nat}{s x:ay}{v:ah}{xs:ae α}(a:α)(y:E.Y){cs:ae ah}{k1 k2:ae OA}
 (hm:(xs.length+1)*bytes<=1073741824/\(xs.length+1)*size<=1073741824/\xs.length+1<=1073741824)
 (next:∀c,R (λh=>aJ P ds rest (act n ((d,.slice (some ⟨c,0,some E.n⟩) (xs.length+1) (xs.length+1))::l) D pm ro) h K) B w0 (ap E (.slice (some ⟨c,0,some E.n⟩) (xs.length+1) (xs.length+1)) (xs++[a])::k2) F)
 (hn:Nat.blt d n=true:=by rfl) (hg:cO l g=true:=by rfl)
 (hs:ev l s=v:=by conv=>lhs;whnf) (hx:ev l x=.slice (some ⟨b',0,some 0⟩) 1 1:=by rfl) (hk:aD (ap E v xs) kl k1:=by exact fB) (hc:aD (pt b' (.cells cs)) k1 k2:=by exact fB) (hp:cs=E.pat a y:=by rfl) (hF:Sub (E.fs a y) F:=by exact mE) (hz:E.n=size:=by rfl):
 R (λh=>aJ P ds (⟨⟨some d,g,.append e size bytes s x⟩,[]⟩::rest) (act n l D pm ro) h K) B w0 kl F:=
 (agL hn hg hs hx hk hc hp hF hz hm).h next
def gv(f:Nat):ak Nat->Nat->ah
 |none,_=>.slice none 0 0
 |some c,n=>.slice (some ⟨c,0,some f⟩) n n
def VN{E:Enc α}{c:ak Nat}{xs:ae α}{w:Wd}{S:ae Nat}(h:(ap E (gv E.n c xs.length) xs).p w S)(h0:0<xs.length):∃b cells,gv E.n c xs.length=.slice (some ⟨b,0,some E.n⟩) xs.length xs.length/\S=[b]/\w.h.get b=some (.cells cells)/\cells.length=xs.length*E.n/\
 ∀(k:Nat) x,xs[k]? =some x->∃y,(∀(j:Nat) u,(E.pat x y)[j]? =some u->cells[k*E.n+j]? =some u)/\∀f∈E.fs x y,f.p w:=by
 rcases h with⟨h,_⟩|⟨b,o,f,cells,h1,h2,h3,h4,h5,h6⟩
 .rw[h]at h0;simp at h0
 .cases c with
  |none=>simp[gv]at h1
  |some c=>
   simp only[gv,Value.slice.injEq,aF,Addr.mk.injEq]at h1;obtain⟨⟨rfl,rfl,h1⟩,_⟩:=h1;refine⟨c,cells,rfl,h3,h4,by rw[h5,fq],λk x hk=>?_⟩;obtain⟨y,q1,q2⟩:=h6 k x hk;exact⟨y,λj u hj=>by have:=q1 j u hj;rwa [fq]at this,q2⟩
def agN{E:Enc α}{xs:ae α}{Q:IH->Prop}(h0:0<xs.length)(hk:aD (ap E (.slice none 0 0) xs) kl kl':=by exact fB):R Q B w0 kl F:=λw s=>by
 obtain⟨S,⟨S1,S2,q1,q2,e⟩,h2,h3⟩:=(s.iw hk).own;obtain⟨b,cells,h,_⟩:=VN (c:=none) q1 h0;simp[gv]at h
end
end Go.Ideal
namespace Go.Ideal
variable {P:Program} {B:ae Nat} {w0:Wd} {kl kl' bD:ae OA} {F:ae aP} {K:KO} {ds:ae Tmp} {rest:ae bY} {n:Nat} {l:qr} {D:ae Deferred} {pm:ak FrameMode} {ro:ak Nat} {d:Nat} {g:ak (Tmp×Bool)}
def agO{α:Type}(E:Enc α){v:ah}{aN:ae (α×E.Y)}{Q:IH->Prop}(h0:aN=[]->∀c,v=.slice none 0 c->R Q B w0 kl F)(h1:aN=[]->∀i o f c,v=.slice (some ⟨i,o,some f⟩) 0 c->R Q B w0 kl F)
 (h2:0<aN.length->∀i o f c,v=.slice (some ⟨i,o,some f⟩) aN.length c->R Q B w0 kl F) (hf:tK E v aN∈F:=by exact iP):R Q B w0 kl F:=λw s=>by
 rcases s.facts _ hf with⟨e,a,c,hv,hg⟩|⟨i,o,f,c,cells,⟨hv,_⟩,_⟩
 .exact mc
 .exact ov
end Go.Ideal
namespace Go.Ideal
inductive Ren(σ:Nat->Nat)(m n:Nat):Value->Value->Prop
 |free {v:Value} (h:cz v=true):Ren σ m n v v
 |sl {i o k c:Nat} {s:Option Nat} (h1:m<=i) (h2:i<n):Ren σ m n (.slice (some ⟨i,o,s⟩) k c) (.slice (some ⟨σ i,o,s⟩) k c)
inductive rW(σ:Nat->Nat)(m n:Nat):List Value->List Value->Prop
 |nil:rW σ m n [] []
 |cons {v v':Value} {l l':List Value} (h:Ren σ m n v v') (hl:rW σ m n l l'):rW σ m n (v::l) (v'::l')
variable{n m:Nat}{v v':ah}{σ:Nat->Nat}
def Ren.vr{β β':aI}{w:ah}(hr:Ren σ m n v v')(hv:VR β v' w)(hβ:∀i,m<=i->i<n->β' i=β (σ i)):VR β' v w:=by
 cases hr with
 |free h=>
  rw[hv.pR h];exact VR.free h
 |sl h1 h2=>
  cases hv with
  |aA h hb hn ha=>exact .aA ((hβ _ h1 h2).trans h) hb hn ha
  |pQ h hb hs hn hz hl ht hc ha=>exact .pQ ((hβ _ h1 h2).trans h) hb hs hn hz hl ht hc ha
def rW.len{σ:Nat->Nat}{m n:Nat}:∀{l l':ae ah},rW σ m n l l'->l'.length=l.length
 |_,_,.nil=>rfl
 |_,_,.cons _ hl=>by simp[rW.len hl]
def rW.get{σ:Nat->Nat}{m n:Nat}:∀{l l':ae ah},rW σ m n l l'->∀{j:Nat} {v:ah},l[j]? =some v->∃v',l'[j]? =some v'/\Ren σ m n v v'
 |_,_,.nil,j,v,h=>by simp at h
 |_,_,.cons h hl,0,v,e=>by simp at e;subst e;exact⟨_,rfl,h⟩
 |_,_,.cons h hl,j+1,v,e=>by simpa using rW.get hl tW
def Ren.cell(h:Ren σ m n v v')(hc:cellV v'=true):cellV v=true:=by
 cases h with
 |free _=>exact hc
 |sl _ _=>rfl
def rW.cells{σ:Nat->Nat}{m n:Nat}:∀{l l':ae ah},rW σ m n l l'->l'.all cellV=true->l.all cellV=true
 |_,_,.nil,_=>rfl
 |_,_,.cons h hl,hc=>by
  simp only[CE,dI]at hc⊢;exact⟨h.cell hc.1,rW.cells hl hc.2⟩
noncomputable def Gm(i:Nat)(l:ae (Nat×bO)):Bool:=not (zB (λp=>not (Nat.beq p.1 i)) l)
variable{i:Nat}{l:ae (Nat×bO)}
def agP(h:Gm i l=true):∃o,(i,o)∈l:=by
 unfold Gm at h;rw[CY,AX,List.all_eq_false]at h;obtain⟨p,hp,hn⟩:=h;have:Nat.beq p.1 i=true:=by simpa using hn
 exact⟨p.2,by rw[<- jG this];exact hp⟩
noncomputable def Ki(m low:Nat)(l:ae (Nat×bO))(n:Nat)(v:ah):BR:=λr pm h=>
 match pm with
 |some _=>false
 |none=>match r with
  | .ok v'=>nK 50 v v'&&(Nat.beq h.next n&&(Nat.beq h.low low&&(Dm l h&&zB (λi=>cond (Gm i l) true (h.get i).isNone) (List.range m))))
  | .fU _=>false
noncomputable def qK(l0:ae (Nat×bO))(n0 low:Nat)(l:ae (Nat×bO))(n:Nat)(fn:Nat)(args:ae ah)(v:ah):bA->IH->ak (ah×IH):=λq h=>
 match q with
 |⟨.func f,Kh,[],none⟩=>cond (Nat.beq f fn&&(nK 5 (.tuple ⟨args⟩) (.tuple ⟨Kh⟩)&&(Nat.beq n0 h.next&&(Nat.beq low h.low&&DD 30 (heapT l0) h.t)))) (some (v,⟨heapT l,n,low⟩)) none
 |_=>none
def agQ{o:bO}(h:(i,o)∈l):∃o',(heapT l).get i=some o':=by
 induction l with
 |nil=>cases h
 |cons p l ih=>
  obtain⟨j,x⟩:=p;simp only[heapT,T.nM];by_cases e:i=j
  .rw[if_pos e];exact⟨x,rfl⟩
  .rw[if_neg e];rcases bT.1 h with h|h
   .cases h;exact absurd rfl e
   .exact ih h
def tL{P:Program}{l0:ae (Nat×bO)}{n0 low:Nat}{fn:Nat}{args:ae ah}
 (hc:CALL P ⟨.func fn,args,[],none⟩ ⟨heapT l0,n0,low⟩ (λr pm h'=>Ki n0 low l n v r pm h'=true))
 {q:bA} {h:IH} {v':ah} {h':IH} (hk:qK l0 n0 low l n fn args v q h=some (v',h')):CALL P q h (λr pm h2=>r=.ok v'/\pm=none/\h2=h'):=by
 unfold qK at hk;split at hk
 .rename_i f Kh;cases hcd:(Nat.beq f fn&&(nK 5 (.tuple ⟨args⟩) (.tuple ⟨Kh⟩)&&(Nat.beq n0 h.next&&(Nat.beq low h.low&&DD 30 (heapT l0) h.t))))with
  |false=>rw[hcd]at hk;cases hk
  |true=>
   rw[hcd]at hk;simp only[cond,aF,dx]at hk;obtain⟨rfl,rfl⟩:=hk;simp only[dI]at hcd;obtain⟨h1,h2,h3,h4,h5⟩:=hcd;have h1:=jG h1;subst h1;have h2:=xz _ _ _ h2;injection h2 with h2;injection h2 with h2;subst h2;have e3:=jG h3;have e4:=jG h4;have e5:=OO _ h5;clear h3 h4 h5;obtain⟨t1,n1,l1⟩:=h;dsimp only at e3 e4 e5;subst e3 e4 e5;refine .forget _ hc ?_;intro r pm h' hl;unfold Ki at hl;split at hl
   .cases hl
   .split at hl
    .rename_i v';simp only[dI]at hl;obtain⟨h1,h2,h3,h4,h5⟩:=hl;rw[CY,jL]at h5;refine⟨⟨heapT l,n,low⟩,(jG h2).symm,(jG h3).symm,?_,?_,rfl,rfl⟩
     .intro i;rcases N9 l i with e|⟨o,e1,e2⟩
      .by_cases hin:i<n0
       .left;have:=h5 i (nH.2 hin);cases hi:Gm i l with
        |true=>
         obtain⟨o,ho⟩:=agP hi;obtain⟨o',ho'⟩:=agQ ho;rw[e]at ho';cases ho'
        |false=>
         rw[hi]at this;have hn:h'.get i=none:=by
          cases hg:h'.get i with
          |none=>rfl
          |some o=>rw[hg]at this;cases this
         rw[hn];exact e
       .exact .inr ⟨Nat.le_of_not_lt hin,e⟩
      .left;exact e2.trans (TW h4 i o e1).symm
     .rw[xz _ _ _ h1]
    .cases hl
 .cases hk
structure aoL(n0 n2:Nat)(lv:List Value)(l2:List (Nat×bO))(e:List Value×List (Nat×bO))(σ:Nat->Nat):Prop where
 val:rW σ n0 n2 lv e.1
 up:∀j,n0<=j->j<n2->n0<=σ j
 inj:∀i j,n0<=i->n0<=j->i<n2->j<n2->σ i=σ j->i=j
 get:∀p∈l2,n0<=p.1->∃cs cs',p.2=.cells cs/\(σ p.1,.cells cs')∈e.2/\rW σ n0 n2 cs cs'
end Go.Ideal
namespace Go.Ideal
variable {P:Program}
section
variable {B:ae Nat} {w0:Wd} {kl kl' bD:ae OA} {F:ae aP} {K:KO} {n:Nat} {l:qr} {D:ae Deferred} {pm:ak FrameMode} {ro:ak Nat}
end
variable{xs:ae Int}{F:ae aP}{kl:ae OA}
def St.opI{B:ae Nat}{w0 w:Wd}{v:ah}(hne:0<xs.length)(s1:St B w0 (ap ai v xs::kl) F w):∃b f pre,(f=0\/f=1)/\v=.slice (some ⟨b,pre.length,some f⟩) xs.length xs.length/\St B w0 (pt b (.cells (pre++xs.map (.int .i64)))::kl) F w:=by
 obtain⟨S,⟨S1,S2,q1,q2,e⟩,h2,h3⟩:=s1.own;rcases q1 with⟨h0,_⟩|⟨b,o,f,cells,h4,h5,h6,h7,h8,h9⟩
 .rw[h0]at hne;simp at hne
 .have h8:cells.length=o+xs.length*1:=h8;have hpl:(cells.take o).length=o:=by rw[iY];omega
  have hc:cells=cells.take o++xs.map (.int .i64):=by
   conv=>lhs;rw[<- xX o cells]
   congr 1;apply jW;intro k;rw[sK,dN];by_cases hkl:k<xs.length
   .obtain⟨y,u1,_⟩:=h9 k xs[k] (bX hkl);have:=u1 0 (.int .i64 xs[k]) rfl;rw[bX hkl];have e1:o+k*ai.n+0=o+k:=by show o+k*1+0=o+k;omega
    rw[e1]at this;exact this
   .rw[iq tr,iq tr];rfl
  exact⟨b,f,cells.take o,h5,by rw[hpl];exact h4,s1.agree,s1.le,s1.ig,⟨S,⟨S1,S2,⟨h6,by rw[<- hc];exact h7⟩,q2,e⟩,h2,h3⟩,s1.facts⟩
variable{pre:ae ah}
def aiy{b f m:Nat}(hm:m=xs.length)(hf:f=0\/f=1)(w:Wd)(S:ae Nat)(hp:(pt b (.cells (pre++xs.map (.int .i64)))).p w S):(ap ai (.slice (some ⟨b,pre.length,some f⟩) m m) xs).p w S:=by
 subst hm;refine .inr ⟨b,pre.length,f,_,rfl,hf,hp.1,hp.2,by rw[ik,bZ];show _=pre.length+xs.length*1;omega,λk x hx=>⟨(),λj u hj=>?_,λf hf=>by cases hf⟩⟩;match j,hj with
 |0,hj=>
  have hj:some (Value.int .i64 x)=some u:=hj;have e1:pre.length+k*ai.n+0=pre.length+k:=by show pre.length+k*1+0=pre.length+k;omega
  rw[e1,rq tr,show pre.length+k - pre.length=k by omega,dN,hx];exact hj
 |j+1,hj=>exact absurd hj (by show¬([Value.int .i64 x]:ae ah)[j+1]? =some u;simp)
variable{cap:ae ah}{Y:Type}{fn:Fn}
def cK.ape{args:ak Addr->ae ah}{a:ak Addr}{zs:Y->ae Int}{val:Y->ah}{fs:Y->ae aP}{pr:Y->Prop}(hne:0<xs.length)(hl:∀y,(zs y).length=xs.length)
 (h:∀b f pre,(f=0\/f=1)->cK P fn (args (some ⟨b,pre.length,some f⟩)) cap [pt b (.cells (pre++xs.map (.int .i64)))] F val (λy=>[pt b (.cells (pre++(zs y).map (.int .i64)))]) fs pr):
 cK P fn (args a) cap [ap ai (.slice a xs.length xs.length) xs] F val (λy=>[ap ai (.slice a xs.length xs.length) (zs y)]) fs pr:=λB w s=>by
 obtain⟨b,f,pre,hf,ev,s'⟩:=s.opI hne;obtain rfl:a=some ⟨b,pre.length,some f⟩:=by injection ev
 refine .kv _ (h b f pre hf B w s') ?_;rintro r pm h' ⟨h1,w',y,e1,st,e2,e3⟩;exact⟨h1,w',y,e1,st.BA λw S hp=>aiy (hl y).symm hf w S hp,e2,e3⟩
def cK.weak{args:ae ah}{val:Y->ah}{kl':Y->ae OA}{fs:Y->ae aP}{pr pr2:Y->Prop}(h:cK P fn args cap kl F val kl' fs pr)(hp:∀y,pr y->pr2 y):cK P fn args cap kl F val kl' fs pr2:=λB w s=>by
 refine .kv _ (h B w s) ?_;rintro r pm h' ⟨h1,w',y,e1,st,e2,e3⟩;exact⟨h1,w',y,e1,st,e2,hp y e3⟩
variable{k:Nat}{x:Int}
def aj6(h:xs[k]? =some x):(pre++xs.map (Value.int .i64))[pre.length+k*1]? =some (.int .i64 x):=by
 rw[rq tr,show pre.length+k*1 - pre.length=k by omega,dN,h];rfl
def aj7:(pre++xs.map (Value.int .i64)).set (pre.length+k*1) (.int .i64 x)=pre++(xs.set k x).map (.int .i64):=by
 rw[RH _ _ tr,show pre.length+k*1 - pre.length=k by omega,List.map_set]
