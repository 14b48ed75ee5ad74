/- Part. -/
import Derived.Test.YtgimfpcgbmpkhaaGreatLibJV
import Derived.Test.YtgimfpcgbmpkhaaGreatLibDV
set_option linter.all false
set_option maxRecDepth 10000
set_option maxHeartbeats 4000000
namespace Go.Proofs.YtgimfpcgbmpkhaaGreat
open Go.Ideal Gph Vm
section
variable {P:Program} {ρ:aB->ah} {x y:aB} {t:aM} {a b:Int}
def avl{op:BinOp}{v:ah}(hv:sP op .u8 a b=some v):mD P op t x y (.int .u8 a) (.int .u8 b)=some v:=by
 simp only[mD,Ak,cond,hv];rfl
def axz(a b:Int):FU a b=decide (a=b):=by rw[Jn];exact wM.2 ox
def axA(hx:ρ x=.int .u8 a)(hy:ρ y=.int .u8 b):Pu P ρ (.bin .eql t x y) (.bool (decide (a=b))):=λh=>by
 simp only[aR.run,hx,hy];rw[avl (v:=.bool (FU a b)) rfl,axz]
def azK(hx:ρ x=.int .u8 a)(hy:ρ y=.int .u8 b):Pu P ρ (.bin .neq t x y) (.bool (decide (a≠b))):=λh=>by
 simp only[aR.run,hx,hy];rw[avl (v:=.bool (!FU a b)) rfl,axz];by_cases h:a=b<;>simp[h]
def wrap_u8{n:Int}(h0:0<=n)(h1:n<256):I6 .u8 n=n:=by
 rw[MN];show n%256=n;omega
def azL(hx:ρ x=.int .u8 a)(hy:ρ y=.int .u8 b)(h0:0<=a+b)(h1:a+b<256):Pu P ρ (.bin .add t x y) (.int .u8 (a+b)):=λh=>by
 simp only[aR.run,hx,hy];rw[avl (v:=.int .u8 (I6 .u8 (Xl a b))) rfl,Rh,wrap_u8 h0 h1]
def azM(hx:ρ x=.int .u8 a)(hy:ρ y=.int .u8 b)(h0:0<=a - b)(h1:a - b<256):Pu P ρ (.bin .sub t x y) (.int .u8 (a - b)):=λh=>by
 simp only[aR.run,hx,hy];rw[avl (v:=.int .u8 (I6 .u8 (QX a b))) rfl,XD,wrap_u8 h0 h1]
end
def tyZ(t:ae Nat):ae Int:=(t.length:Int)::((t.reverse.map λx:Nat=>(x:Int))++List.replicate (32 - t.length) 0)
abbrev y5(t:ae Nat):ae ah:=(tyZ t).map (.int .u8)
variable{t:ae Nat}
def akT(h:t.length<=32):(tyZ t).length=33:=by unfold tyZ;simp;omega
variable{x:Nat}
def azN(h:t.length<32):((tyZ t).set 0 ((t.length:Int)+1)).set (t.length+1) (x:Int)=tyZ (x::t):=by
 have e:32 - t.length=(32 - (t.length+1))+1:=ov
 unfold tyZ;rw[List.set_cons_zero,avx,e,wR,DU _ _ ox,bi,FP,um,List.set_cons_zero,DW,bZ,gp,rJ];rfl
def azO(h:t.length<32):((tyZ (x::t)).set (t.length+1) 0).set 0 (t.length:Int)=tyZ t:=by
 have e:32 - t.length=(32 - (t.length+1))+1:=ov
 unfold tyZ;rw[avx,List.set_cons_zero,DW,bZ,gp,DU _ _ ox,bi,FP,um,e,wR];rfl
def azP:(tyZ (x::t))[t.length+1]? =some (x:Int):=by
 unfold tyZ;rw[IP,DW,bZ,gp,sN ox,bi,FP,um];rfl
variable{bT:Nat}
def ahK(h:t.length<32):aY Tryz.prog (.func 202) [ptr' bT,.int .u8 (x:Int)] [] [pt bT (.cells (y5 t))] [] (λ_:Unit=>.tuple ⟨[]⟩) (λ_=>[pt bT (.cells (y5 (x::t)))]) (λ_=>[]) (λ_=>True):=by
 have hl:=akT (t:=t) ov;have e:0+((t.length:Int)+1).toNat*1=t.length+1:=ov
 refine gB 202 λB w0=>?_;refine go ?_;refine(dx rfl rfl (axA (a:=(t.length:Int)) (b:=32) rfl rfl)).h ?_;refine aK ?_ ?_<;>intro h1
 .exfalso;omega
 refine go ?_;refine(dx rfl rfl (azL (a:=(t.length:Int)) (b:=1) rfl rfl ov ov)).h ?_;refine go ?_;refine jN (o:=0+Int.toNat 0*1) (cs:=y5 t) (cs':=((tyZ t).set 0 ((t.length:Int)+1)).map (.int .u8)) (v:=.int .u8 ((t.length:Int)+1)) (by rw[qo];rfl) (by rw[bi,hl];decide) ?_;refine go ?_;refine jN (o:=0+((t.length:Int)+1).toNat*1) (cs:=((tyZ t).set 0 ((t.length:Int)+1)).map (.int .u8)) (cs':=y5 (x::t)) (v:=.int .u8 (x:Int)) (by rw[e,<- qo,azN h]) (by rw[e,bi,lu,hl];omega) ?_;exact dH
def aew(h:t.length<32):aY Tryz.prog (.func 203) [ptr' bT,.int .u8 (x:Int)] [] [pt bT (.cells (y5 (x::t)))] [] (λ_:Unit=>.tuple ⟨[]⟩) (λ_=>[pt bT (.cells (y5 t))]) (λ_=>[]) (λ_=>True):=by
 have hl:=akT (t:=x::t) oF;have e:0+((t.length+1:Nat):Int).toNat*1=t.length+1:=ov
 have hlc:(x::t).length=t.length+1:=rfl;have ek:y5 (x::t)=.int .u8 ((t.length+1:Nat):Int)::((((x::t).reverse.map λx:Nat=>(x:Int))++List.replicate (32 - (x::t).length) 0).map (.int .u8)):=rfl;refine gB 203 λB w0=>?_;refine go ?_;refine(dx rfl rfl (axA (a:=((t.length+1:Nat):Int)) (b:=0) rfl rfl)).h ?_;rw[dA (show¬((t.length+1:Nat):Int)=0 by omega)];refine go ?_;refine oN (o:=0+((t.length+1:Nat):Int).toNat*1) (.int .u8 (x:Int)) (by rw[e,eF,azP];rfl) ?_;refine go ?_;refine(dx rfl rfl (azK (a:=(x:Int)) (b:=(x:Int)) rfl rfl)).h ?_;rw[dA (show¬(x:Int)≠(x:Int)from λh=>h rfl)];refine go ?_;refine jN (o:=0+((t.length+1:Nat):Int).toNat*1) (cs:=y5 (x::t)) (cs':=((tyZ (x::t)).set (t.length+1) 0).map (.int .u8)) (v:=.int .u8 0) (by rw[e,qo]) (by rw[e,bi,hl];omega) ?_;refine go ?_;refine(dx rfl rfl (azM (a:=((t.length+1:Nat):Int)) (b:=1) rfl rfl ov ov)).h ?_;rw[show((t.length+1:Nat):Int) - 1=(t.length:Int)by omega];refine go ?_;refine jN (o:=0+Int.toNat 0*1) (cs:=((tyZ (x::t)).set (t.length+1) 0).map (.int .u8)) (cs':=y5 t) (v:=.int .u8 (t.length:Int)) (by rw[<- qo];show List.map _ (((tyZ (x::t)).set (t.length+1) 0).set 0 (t.length:Int))=_;rw[azO h]) (by rw[bi,lu,hl];decide) ?_;exact dH
def azQ{nT C S:Nat}{t':ae Nat}{i:Ins}{vv vn vi:ah}{at_:az Addr}{fo:Int}{ct:Nat}(h:TS nT C S i t t')(ht:t.length<=32)(hS:S<=16)(hn:nT<=4096)(hC:C<=256)(hfo:i.op=12->i.a<=fo):
 aY Tryz.prog (.func 137) [ptr' bT,.agg ⟨[iV (C:Int),iV (S:Int),vv,vn,.slice at_ nT ct,vi]⟩,.agg ⟨[iV i.op,iV i.a,iV 0]⟩,iV fo] [] [pt bT (.cells (y5 t))] [] (λ_:Unit=>.tuple ⟨[]⟩) (λ_=>[pt bT (.cells (y5 t'))]) (λ_=>[]) (λ_=>True):=by
 have hsh:1<<<S=2^S:=by rw[aoz,BS]
 have aBs:=awK hS;cases h with
 |const h0 h1 h2=>
  exact od
 |cell h0 h1 h2=>
  refine gB 137 λB w0=>?_;refine go ?_;intro b5 b6;refine gC (ahK (bT:=bT) (t:=t) (x:=2) py) λ_ _=>?_;refine gH ?_ ?_<;>intro g1
  rotate_left
  .exfalso;omega
  exact cI
 | @val t=>
   refine gB 137 λB w0=>?_;refine go ?_;intro b5 b6;refine gC (aew (bT:=bT) (t:=t) (x:=2) py) λ_ _=>?_;refine gC (ahK (bT:=bT) (t:=t) (x:=1) py) λ_ _=>?_;exact dH
 | @aP a t h0 h1=>
   refine gB 137 λB w0=>?_;refine go ?_;intro b5 b6;refine go ?_;refine(dx rfl rfl (SS (a:=1) (b:=S) rfl rfl ov ov)).h ?_;rw[hsh];refine gC (aew (bT:=bT) (t:=t) (x:=2) py) λ_ _=>?_;refine gC (ahK (bT:=bT) (t:=t) (x:=1) py) λ_ _=>?_;refine gH ?_ ?_<;>intro g1
   rotate_left
   .exfalso;omega
   exact cI
 | @add t=>
   exact cH
 | @eq t=>
   exact cH
 | @less t=>
   exact cH
 | @not t=>
   refine gB 137 λB w0=>?_;refine go ?_;intro b5 b6;refine gC (aew (bT:=bT) (t:=t) (x:=1) py) λ_ _=>?_;refine gC (ahK (bT:=bT) (t:=t) (x:=1) py) λ_ _=>?_;exact dH
 |store h0 h1=>
  exact oa
 |acR h0 h1 h2=>
  exact od
 | @pick a t h0 h1=>
   refine gB 137 λB w0=>?_;refine go ?_;intro b5 b6;refine gC (aew (bT:=bT) (t:=t) (x:=1) py) λ_ _=>?_;refine gC (ahK (bT:=bT) (t:=t) (x:=1) py) λ_ _=>?_;refine gH ?_ ?_<;>intro g1
   rotate_left
   .exfalso;omega
   exact cI
 |skip h0=>
  have hf:=hfo rfl;dsimp only at hf;exact oa
 |size h0 h1 h2=>
  exact oc
 |reach h0 h1 h2=>
  exact oc
 |dem h0 h1=>
  exact oa
end Go.Proofs.YtgimfpcgbmpkhaaGreat
namespace Go.Proofs.YtgimfpcgbmpkhaaGreat
open Go.Ideal Gph Vm Kd
variable{P:Program}{ty:aM}
def azR(h:P.underlying ty=some (.int .u8))(a b:Int)(d:Nat):dX P (Op.equalIn (d+1) ty (.int .u8 a) (.int .u8 b))=some (decide (a=b)):=by
 unfold Op.equalIn;rw[gu,qz h];simp only[lS,if_true];rfl
def azS(h:P.underlying ty=some (.int .u8)){v:ah}{xs:Array ah}{o:Nat}(hx:xs[o]? =some v):dX P (part ty xs o)=some v:=by
 have hag:dX P (isAgg ty)=some false:=by
  unfold isAgg;rw[gu,qz h];rfl
 unfold part;rw[gu,hag];show dX P (match xs[o]? with|some v=>pure v|none=>stuck "part: no such cell")=_;rw[hx];rfl
variable{e:aM}
def azT(hs:P.info? e|>.map (·.size)|>(·=some 1)):dX P (sizeOf e)=some 1:=by
 exact eL
variable{t:aM}{n:Nat}{xs:ae Int}
def azU{d:Nat}(hu:P.underlying t=some (.array n e))(he:P.underlying e=some (.int .u8))(hs:P.info? e|>.map (·.size)|>(·=some 1))(hx:xs.length=n):
 dX P (Op.equalIn (d+2) t (.agg ⟨xs.map (.int .u8)⟩) (.agg ⟨xs.map (.int .u8)⟩))=some true:=by
 have hsz:=azT hs;unfold Op.equalIn;rw[gu,qz hu];simp only[lS];rw[gu,hsz];simp only[lS,lU];rw[Std.Legacy.Range.forIn_eq_forIn_range'];simp only[Std.Legacy.Range.size,BQ,Mf,Nat.div_one];have key:∀(m i:Nat),i+m=n->dX P (do
  let Kb <- forIn (List.range' i m 1) ((none,()):az Bool×Unit) λi Kb=>
   (do let a <- part e ⟨xs.map (.int .u8)⟩ i
       let b <- part e ⟨xs.map (.int .u8)⟩ i
       let r <- Op.equalIn (d+1) e a b
       if(!r)=true then pure (ForInStep.done (some false,()))else pure (ForInStep.yield (none,())))
  match Kb.fst with
  |some r=>pure r
  |none=>pure true)=some true:=by
  intro m;induction m with
  |zero=>intro i hi;rfl
  |succ m ih=>
   intro i hi;have hix:i<xs.length:=ov
   rw[List.range'_succ,List.forIn_cons];simp only[gu,Ka];rw[azS he (xs:=⟨xs.map (.int .u8)⟩) (o:=i) (v:=.int .u8 xs[i]) (by simp[hix]),lS,lS,azR he,lS];have ih:=ih (i+1) ov;simp only[gu,Ka]at ih;rw[eB rfl];simp only[Bool.not_true,DR,if_false];exact ih
 have:=key n 0 ov;refine Eq.trans ?_ this;simp only[gu];congr 1;funext s
 cases s.fst<;>rfl
def NQ{l:qr}{x y:aB}(hx:ev l x=.agg ⟨xs.map (.int .u8)⟩)(hy:ev l y=.agg ⟨xs.map (.int .u8)⟩)(hu:P.underlying t=some (.array n e))(he:P.underlying e=some (.int .u8))(hs:P.info? e|>.map (·.size)|>(·=some 1))(hxl:xs.length=n)(hm:P.eqGuardType P.depth t=false):
 Pu P (ev l) (.bin .neq t x y) (.bool false):=λh0=>by
 have hfr:∀zs:ae Int,iY (zs.map (Value.int .u8))=true:=by
  exact kZ
 simp only[aR.run,hx,hy];rw[ZN (hfr xs) (hfr xs) hm (by
  show dX P (do pure (Value.bool !(<- Op.equal t (.agg ⟨xs.map (.int .u8)⟩) (.agg ⟨xs.map (.int .u8)⟩))))=_;rw[gu,show dX P (Op.equal t (.agg ⟨xs.map (.int .u8)⟩) (.agg ⟨xs.map (.int .u8)⟩))=some true from azU hu he hs hxl];rfl) rfl]
 rfl
variable{α:Type}
def avm[DecidableEq α]{z v:ah}{a:α}{aC:ae (α×ah)}(h:dM a aC=some v):kw true z a aC=.tuple ⟨[v,.bool true]⟩:=by unfold kw;rw[h];rfl
def avn[DecidableEq α]{z:ah}{a:α}{aC:ae (α×ah)}(h:dM a aC=none):kw true z a aC=.tuple ⟨[z,.bool false]⟩:=by unfold kw;rw[h];rfl
def axB{α:Type}:∀(cs vs:ae α),cs.length=vs.length->jV cs 0 vs=some vs
 |[],[],_=>rfl
 |c::cs,v::vs,h=>by rw[Q6,axB cs vs oI];rfl
section
variable {P:Program} {B:ae Nat} {w0:Wd} {kl kl':ae OA} {F:ae aI} {K:KO} {ds:ae Tmp} {rest:ae aS} {n:Nat} {l:qr} {D:ae Deferred} {pm:az FrameMode} {ro:az Nat} {d:Nat} {g:az (Tmp×Bool)}
variable{x:aB}{b m:Nat}{cs:ae ah}
def anE(hl:cs.length=m)(hx:ev l x=.pointer (some ⟨b,0,none⟩))(hk:aD (pt b (.cells cs)) kl kl')(hn:Nat.blt d n=true)(hg:bJ l g=true)
 (next:R (λh=>aO P ds rest (act n ((d,.agg ⟨cs⟩)::l) D pm ro) h K) B w0 kl F):R (λh=>aO P ds (⟨⟨some d,g,.sO m x⟩,[]⟩::rest) (act n l D pm ro) h K) B w0 kl F:=
 (SE hn hg hx hk tW).h next
def avU{y:aB}{vs:ae ah}(hl:cs.length=m)(hv:vs.length=m)(hx:ev l x=.pointer (some ⟨b,0,none⟩))(hy:ev l y=.agg ⟨vs⟩)(hk:aD (pt b (.cells cs)) kl kl')(hg:bJ l g=true)
 (next:R (λh=>aO P ds rest (act n l D pm ro) h K) B w0 (pt b (.cells vs)::kl') F):R (λh=>aO P ds (⟨⟨none,g,.store m x y⟩,[]⟩::rest) (act n l D pm ro) h K) B w0 kl F:=
 (SG (vs:=vs) hg hx (by rw[hy];rfl) (by rw[xX,hv];exact FI _) hk (axB cs vs (by rw[hl,hv]))).h next
end
def azV{b:Nat}:GI Tryz.prog (.func 136) [] [ptr' b] .returning [] [] (λ_:Unit=>.ok (.tuple ⟨[]⟩)) (λ_=>.returning) (λ_=>[]) (λ_=>[]) (λ_=>True):=by
 refine Ol _ (pY 136) λB w0=>?_;refine go ?_;refine Oo (v:=.nilIface) (m':=.returning) rfl ?_;refine go ?_;refine(dx (v:=.tuple ⟨[iV 0,.bool false]⟩) rfl rfl (λh=>rfl)).h ?_;refine go ?_;exact Ot () (hv:=rfl) (hm:=rfl) (hp:=trivial)
section
variable {B:ae Nat} {w0:Wd} {kl Dw:ae OA} {F:ae aI} {l:qr} {b2:Nat} {n i2:Nat} {code:iJ}
def axC{o:Out}(hc:code.results=[.cell1 i2])(ho:wW o=some .returning)(h2:lk l i2=ptr' b2)(hk:aD (pt b2 (.cells [iV 0])) kl Dw):
 R (λh=>rV Tryz.prog code (AU B w0 (λ_:Unit=>.ok (iV 0)) (λ_=>[]) (λ_=>[]) (λ_=>True)) o (act n l [{target:=.fn (.func 136) ⟨[ptr' b2]⟩,args:=⟨[]⟩}] none none) h) B w0 kl F:=by
 refine EE (m:=.returning) ?_ ho;refine Oq (k1:=[]) (bA:=kl) (dS:=λ_=>kl) (F2:=λ_=>F) (azV (b:=b2)) (λ_ v _ _=>?_) (λ_ ch _ hc=>by cases hc) (hk:=.nil) (hF:=.nil) (hk2:=λ_=>dz.nil) (hF2:=λ_=>dz.nil);show RL _ _ _ _ .returning _ _ _ _ _;refine Ou (bA:=kl) (vs:=[iV 0]) () rfl trivial (hr:=?_) (hk:=.nil) (hF:=.nil);rw[hc];exact .cell1 h2 hk rfl .nil
end
variable{C S:Nat}
def _root_.Vm.TS.aoP{nT:Nat}{i:Ins}{t t':ae Nat}(h:TS nT C S i t t')(h12:i.op=12):0<=i.a:=by
 cases h<;>first|assumption|(simp at h12)
structure arc(C S:Nat)(values:List Int)(aH tables:List (List Int))(prog:List Ins)(ty:Nat->List Nat):Prop where
 c:1<=C/\C<=256
 s:1<=S/\S<=16
 vl:values.length=S
 vs:∀v∈values,0<=v/\v<=99
 nl:aH.length=C
 ng:jW aH
 ns:∀l∈aH,l.length<2^63
 tl:tables.length<=4096
 pl:prog.length<=40000000
 ck:CkF tables.length C S prog [] ty
abbrev as2(vv vn vt vi:ah)(values:ae Int)(aH tables:ae (ae Int))(prog:ae Ins):ae aI:=[ay aj vv values,ay (aA aj) vn aH,ay (aA aj) vt tables,ay iB vi prog]
abbrev apL(C S:Nat)(vv vn vt vi:ah):ae ah:=[iV (C:Int),iV (S:Int),vv,vn,vt,vi]
def avV(ty:Nat->ae Nat)(aC:ae (Int×ah)):Prop:=∀(j:Nat) v,dM (j:Int) aC=some v->v=.agg ⟨y5 (ty j)⟩
set_option maxRecDepth 100000 in
def axD{values:ae Int}{aH tables:ae (ae Int)}{prog:ae Ins}{ty:Nat->ae Nat}{vv vn vt vi:ah}(h:arc C S values aH tables prog ty):fC Tryz.prog 50 [.agg ⟨apL C S vv vn vt vi⟩] (as2 vv vn vt vi values aH tables prog) (λ_:Unit=>iV 0) (λ_=>True):=by
 have hc:=h.c;have hS:=h.s;have hvl:=h.vl;have hnl:=h.nl;have htl:=h.tl;have hpl:=h.pl;refine rX.toC _ ?_ (λ_ _=>rfl);refine zH _ (pY 50) λB w0=>?_;refine gF aj vv values λa1 c1 e1=>?_;subst e1;refine gF (aA aj) vn aH λa2 c2 e2=>?_;subst e2;refine gF (aA aj) vt tables λa3 c3 e3=>?_;subst e3;refine gF iB vi prog λa4 c4 e4=>?_;subst e4;refine go ?_;intro b1 b2;refine gP b1 ?_;refine go ?_;refine Zq ?_;refine gH ?_ ?_<;>intro gg
 rotate_left
 .exfalso;omega
 refine gH ?_ ?_<;>intro gg
 rotate_left
 .exfalso;omega
 refine gH ?_ ?_<;>intro gg
 rotate_left
 .exfalso;omega
 refine gH ?_ ?_<;>intro gg
 rotate_left
 .exfalso;omega
 refine gH ?_ ?_<;>intro gg
 rotate_left
 .exfalso;omega
 refine gH ?_ ?_<;>intro gg
 rotate_left
 .exfalso;omega
 refine gC (amK (g:=aH) h.ns) λr hr=>?_;obtain rfl:=hr.2 h.ng;refine gN values.length 61 (λk=>k<=values.length) (bI _) ?_;intro k hk;refine aK ?_ ?_<;>intro h1
 .refine go ?_;intro _ _ x hx;have nA:=h.vs x (aV hx);refine gH ?_ ?_<;>intro g1
  rotate_left
  .exfalso;omega
  refine aK ?_ ?_<;>intro g2
  .exfalso;omega
  refine go ?_;exact aW (k+1) ov ov
 refine go ?_;intro b5;refine go ?_;refine yB jT (λbm=>?_);refine go ?_;have hck:=h.ck;have hz0:=hck.z;have he0:=hck.e;refine dL (λy:Nat×ae (Int×ah)=>prog.length - y.1) (λy=>[(76,iV (y.1:Int))]) (λy=>[pt b5 (.cells (y5 (ty y.1))),ic jT bm y.2]) (λ_=>[]) (λy=>y.1<=prog.length/\avV ty y.2) (0,[]) ⟨bI _,λj v hj=>by cases hj⟩ (hk:=by
  rw[hz0];exact bM) (body:=?_)
 rintro⟨k,aC⟩ ⟨hk,hkv⟩;dsimp only at hk hkv⊢;have hbk:=hck.b k hk;refine aK ?_ ?_<;>intro h1
 .have hkl:k<prog.length:=by omega
  refine gX iB (xs:=prog) λ_ _ i (_:Unit) hi=>?_;obtain⟨hts,hsk⟩:=hck.s k i hi;have hbk1:=hck.b (k+1) ov;refine go ?_;intro b8;refine go ?_;refine EI (b:=bm) (aC:=aC) Dj (k:Int) ?_;have hTS:=azQ (bT:=b5) (t:=ty k) (t':=ty (k+1)) (vv:=.slice a1 values.length c1) (vn:=.slice a2 aH.length c2) (vi:=.slice a4 prog.length c4) (at_:=a3) (ct:=c3) (fo:=(prog.length:Int) - (k:Int) - 1) hts hbk hS.2 htl hc.2 (λh12=>by have:=hsk h12;omega);cases hlk:dM (k:Int) aC with
  |some v=>
   rw[avm hlk];obtain rfl:=hkv k v hlk;refine go ?_;intro b9;refine go ?_;have avo:(y5 (ty k)).length=33:=by rw[bi,akT hbk]
   refine avU (b:=b9) (vs:=y5 (ty k)) rfl avo rfl rfl .here rfl ?_;refine go ?_;refine anE (b:=b9) avo rfl .here rfl rfl ?_;refine anE (b:=b5) (cs:=y5 (ty k)) avo rfl tw rfl rfl ?_;refine go ?_;refine(dx rfl rfl (NQ (xs:=tyZ (ty k)) (n:=33) (e:=5) rfl rfl oB oB oB (akT (hbk)) oB)).h ?_;exact bw
  |none=>
   rw[avn hlk];refine go ?_;intro b9;exact bw
 have hke:k=prog.length:=ov
 subst hke;refine go ?_;rw[he0];have avo:(y5 []).length=33:=rfl;refine EI (b:=bm) (aC:=aC) Dj (prog.length:Int) ?_;cases avW:dM (prog.length:Int) aC with
 |some v=>
  rw[avm avW];obtain rfl:v=.agg ⟨y5 []⟩:=by rw[<- he0];exact hkv prog.length v avW
  refine go ?_;intro b15;refine go ?_;refine(dx rfl rfl (NQ (xs:=tyZ ([])) (n:=33) (e:=5) rfl rfl oB oB oB (akT (bI _)) oB)).h ?_;exact dc
 |none=>
  rw[avn avW];refine go ?_;intro b15;exact dc
