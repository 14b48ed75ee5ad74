/- Part. -/
import Derived.Test.YtgimfpcgbmpkhaaGreatLibDV
import Derived.Test.YtgimfpcgbmpkhaaGreatLibJV
set_option linter.all false
set_option maxRecDepth 10000
set_option maxHeartbeats 40000000
namespace Go.Proofs.YtgimfpcgbmpkhaaGreat
open Go.Ideal Gph Vm
abbrev runK(C S:Int)(vv vn vt vi vg vk:ah)(r0 r1 at_ br:Int)(en:Bool):ae ah:=
 [iV C,iV S,vv,vn,vt,vi,vg,vk,iV r0,iV r1,iV 0,iV 0,iV 0,iV 0,iV 0,iV 0,iV 0,iV 0,iV 0,iV 0,iV 0,iV 0,iV 0,iV 0,iV at_,iV br,.bool en]
abbrev pzR(st:ae Int):ae (Int×aj.Y):=st.reverse.map λx=>(x,())
def as4(st:ae Int):(pzR st).length=st.length:=by unfold pzR;rw[bi,FP]
def avX(x:Int)(st:ae Int):pzR (x::st)=pzR st++([((x,()):Int×aj.Y)]:ae (Int×aj.Y)):=by unfold pzR;rw[DW,bZ];rfl
def azW(x:Int)(st:ae Int):(pzR (x::st))[st.length]? =some ((x,()):Int×aj.Y):=by rw[avX,sN (by rw[as4];omega),as4,um];rfl
section
variable {C S:Int} {vv vn vt vi vg vk:ah} {r0 r1 at_ br:Int} {en:Bool} {bR:Nat} {st:ae Int}
variable{x:Int}
def ade(hl:st.length<=100000000):aY Tryz.prog (.func 140) [ptr' bR,iV x] [] [pt bR (.cells (runK C S vv vn vt vi vg vk r0 r1 at_ br en)),sk aj vk (pzR st)] [] (λ_:ah=>.tuple ⟨[]⟩)
 (λv=>[pt bR (.cells (runK C S vv vn vt vi vg v r0 r1 at_ br en)),sk aj v (pzR (x::st))]) (λ_=>[]) (λ_=>True):=by
 have hpl:=as4 st;refine gB 140 λB w0=>?_;refine go ?_;intro b10;refine go ?_;refine awj aj (v:=vk) (aF:=pzR st) x () ⟨ov,ov,ov⟩ (λv'=>?_);rw[show pzR st++[((x,()):Int×aj.Y)]=pzR (x::st)from(avX x st).symm];refine atN aj (v:=v') λa1 c1 e1=>?_;subst e1;refine go ?_;exact gQ (.slice a1 _ c1) trivial
def acO(hl:st.length<=100000000):aY Tryz.prog (.func 143) [ptr' bR] [] [pt bR (.cells (runK C S vv vn vt vi vg vk r0 r1 at_ br en)),sk aj vk (pzR (x::st))] [] (λ_:ah=>iV x)
 (λv=>[pt bR (.cells (runK C S vv vn vt vi vg v r0 r1 at_ br en)),sk aj v (pzR st)]) (λ_=>[]) (λ_=>True):=by
 have hll:(pzR (x::st)).length=st.length+1:=by rw[as4];rfl
 have hpl:=as4 st;refine gB 143 λB w0=>?_;refine awh aj (v:=vk) (aF:=pzR (x::st)) ov λb f c r hf hr hc e=>?_;rw[hll]at e;subst e;refine go ?_;rw[show((st.length+1:Nat):Int) - 1=((st.length:Nat):Int)by omega];refine go ?_;refine oN (o:=0+st.length*1) (iV x) (awi (E:=aj) (j:=0) (p:=(x,())) (k:=st.length) (azW x st) rfl (by show _=st.length*1+0;omega)) ?_;refine go ?_;refine(dx rfl rfl (GY (lo:=0) (hi:=st.length) rfl hf oU (.inl ⟨rfl,rfl⟩) (.inr ⟨_,rfl,rfl⟩) (bI _) ov)).h ?_;rw[show Value.slice (some ⟨b,0+0*aj.n,some f⟩) (st.length - 0) (c - 0)=.slice (some ⟨b,0,some f⟩) st.length c by rw[IW,BQ,BQ]];refine go ?_;refine ax8 aj (aF:=pzR (x::st)) (b:=b) (f:=f) (c:=c) (m:=st.length) (r:=r) ov hf hr hc ?_;rw[show(pzR (x::st)).take st.length=pzR st by rw[avX,<- hpl,List.take_left]];exact gQ (.slice (some ⟨b,0,some f⟩) st.length c) trivial
def avY{p:Bool}(hl:st.length<=100000000):aY Tryz.prog (.func 147) [ptr' bR,.bool p] [] [pt bR (.cells (runK C S vv vn vt vi vg vk r0 r1 at_ br en)),sk aj vk (pzR st)] [] (λ_:ah=>.tuple ⟨[]⟩)
 (λv=>[pt bR (.cells (runK C S vv vn vt vi vg v r0 r1 at_ br en)),sk aj v (pzR (bV p::st))]) (λ_=>[]) (λ_=>True):=by
 refine gB 147 λB w0=>?_;refine go ?_;cases p with
 |true=>
  rw[show bV true=1 from rfl];refine gC (ade (C:=C) (S:=S) (vv:=vv) (vn:=vn) (vt:=vt) (vi:=vi) (vg:=vg) (vk:=vk) (r0:=r0) (r1:=r1) (at_:=at_) (br:=br) (en:=en) (x:=1) hl) λv1 _=>?_;refine go ?_;exact gQ v1 trivial
 |false=>
  rw[show bV false=0 from rfl];refine gC (ade (C:=C) (S:=S) (vv:=vv) (vn:=vn) (vt:=vt) (vi:=vi) (vg:=vg) (vk:=vk) (r0:=r0) (r1:=r1) (at_:=at_) (br:=br) (en:=en) (x:=0) hl) λv1 _=>?_;refine go ?_;exact gQ v1 trivial
end
def mkT(grid:ae Int)(set:Int)(k:Nat):ae Bool:=Vm.mkV (grid.take k) set++List.replicate (grid.length - k) false
def azX(grid:ae Int)(set:Int){k:Nat}(hk:k<=grid.length):(mkT grid set k).length=grid.length:=by unfold mkT Vm.mkV;simp;omega
def azY(grid:ae Int)(set:Int):mkT grid set 0=List.replicate grid.length false:=by simp[mkT,Vm.mkV]
def azZ(grid:ae Int)(set:Int):mkT grid set grid.length=Vm.mkV grid set:=by simp[mkT]
variable{grid:ae Int}{k:Nat}{set x:Int}
def az0(h:grid[k]? =some x):mkT grid set (k+1)=if set.toNat.testBit x.toNat=true then(mkT grid set k).set k true else mkT grid set k:=by
 have hk:=(bz.1 h).1;have e:grid.length - k=(grid.length - (k+1))+1:=ov
 have h1:mkT grid set (k+1)=Vm.mkV (grid.take k) set++set.toNat.testBit x.toNat::List.replicate (grid.length - (k+1)) false:=by
  unfold mkT Vm.mkV;rw[rP,h,ama,bZ,gp];rfl
 have h2:mkT grid set k=Vm.mkV (grid.take k) set++false::List.replicate (grid.length - (k+1)) false:=by
  unfold mkT;rw[e,wR]
 have hl:(Vm.mkV (grid.take k) set).length=k:=by unfold Vm.mkV;simp;omega
 split
 .rename_i hb;rw[h1,h2,hb,DU _ _ ov,hl,um];rfl
 .rename_i hb;rw[h1,h2,avv.2 hb]
def az1(h:grid[k]? =some x):acf (grid.take (k+1)) set=acf (grid.take k) set+if set.toNat.testBit x.toNat=true then 1 else 0:=by
 unfold acf Vm.mkV;rw[rP,h,ama,bZ,ze,fu];cases hb:set.toNat.testBit x.toNat<;>simp[hb]
def az2{b3 b4 b5 bm:Nat}{set:Nat}{x:Nat}{m:ae Bool}{c:Nat}(hm:m.length=grid.length)(hk:k<grid.length)(hs:set<65536)(hx:x<64)(hc:c<=1000000):
 aY Tryz.prog (.func 204) [iV (k:Int),iV (x:Int)] [ptr' b3,ptr' b4,ptr' b5] [pt b4 (.cells [HY bm grid.length]),pt b5 (.cells [iV (c:Int)]),pt bm (.cells (m.map .bool))] [aX b3 0 [iV (set:Int)]]
  (λ_:Unit=>.tuple ⟨[]⟩) (λ_=>[pt b4 (.cells [HY bm grid.length]),pt b5 (.cells [iV ((c+if set.testBit x=true then 1 else 0:Nat):Int)]),pt bm (.cells ((if set.testBit x=true then m.set k true else m).map .bool))]) (λ_=>[]) (λ_=>True):=by
 refine gB 204 λB w0=>?_;refine go ?_;refine(dx rfl rfl (J2 (a:=set) (b:=x) rfl rfl ov)).h ?_;refine(dx rfl rfl (J3 (b:=1) rfl rfl (IY (Nat.shiftRight_le _ _) ov) ov)).h ?_;refine go ?_;rw[amx];refine yA rfl (λh=>?_) (λh=>?_)
 .rw[if_pos h,if_pos h];refine go ?_;refine jN (b:=bm) (o:=0+k*1) (cs:=m.map .bool) (cs':=(m.set k true).map .bool) (v:=.bool true) (by rw[gq,lU,<- qo]) (by rw[bi];omega) ?_;refine go ?_;rw[show(c:Int)+1=((c+1:Nat):Int)by omega];exact gQ () trivial
 .have h':¬set.testBit x=true:=by rw[h];simp
  rw[if_neg h',if_neg h',FD];exact dH
def az3{g:ae (ae Int)}{aP:ae Bool}(hg:∀l∈g,∀n∈l,Rg g n){s:Int}(hs:Rg g s):(A7 g aP s).length<=g.length:=by
 have:=an4 (avD (aP:=aP) hg hs) (m:=adm (List.replicate g.length true) g.length) (λc hc=>by
  have:=aav hg hs c hc;exact jj)
 exact lA
def AX(xs:ae Int):(bW xs).length=xs.length:=by unfold bW;exact List.length_mergeSort _
section
variable {C S:Int} {vv vn vt vi vg vk:ah} {r0 r1 at_ br:Int} {en:Bool} {bR:Nat} {st:ae Int} {grid:ae Int} {aH:ae (ae Int)}
variable{set:Nat}
def axF(hgl:grid.length<=256)(hgr:∀x∈grid,0<=x/\x<16)(hs:set<65536):
 aY Tryz.prog (.func 155) [ptr' bR,iV (set:Int)] [] [pt bR (.cells (runK C S vv vn vt vi vg vk r0 r1 at_ br en))] [ay aj vg grid] (λbm:Nat=>.tuple ⟨[HY bm grid.length,iV (acf grid (set:Int):Int)]⟩)
  (λ_=>[pt bR (.cells (runK C S vv vn vt vi vg vk r0 r1 at_ br en))]) (λbm=>[ay lG (HY bm grid.length) (Vm.mkV grid (set:Int))]) (λ_=>True):=by
 refine gB 155 λB w0=>?_;refine gF aj vg grid λag cg eg=>?_;subst eg;refine go ?_;intro b3 b4 b5;refine gP b3 ?_;refine go ?_;refine qA grid.length ⟨ov,ov,ov⟩ λbm=>?_;rw[abK,<- azY grid (set:Int)];refine go ?_;refine dL (λk=>grid.length - k) (λk:Nat=>[(21,iV (k:Int))]) (λk=>[pt b4 (.cells [HY bm grid.length]),pt b5 (.cells [iV (acf (grid.take k) (set:Int):Int)]),pt bm (.cells ((mkT grid (set:Int) k).map .bool))]) (λ_=>[]) (λk=>k<=grid.length) 0 (bI _) (hk:=bM) (body:=?_);intro k hk;have hml:=azX grid (set:Int) hk;have hsl:acf (grid.take k) (set:Int)<=1000000:=by
  unfold acf Vm.mkV;refine lZ (zh _ _) ?_;rw[bi,gW];omega
 refine aK ?_ ?_<;>intro h1
 .refine go ?_;intro _ _ x hx;have nA:=hgr x (aV hx);have hms:=az0 (set:=(set:Int)) hx;have hss:=az1 (set:=(set:Int)) hx;obtain⟨x,rfl⟩:=dW nA.1;rw[fI,fI]at hms hss;refine gC (az2 (b3:=b3) (b4:=b4) (b5:=b5) (bm:=bm) (grid:=grid) (set:=set) (k:=k) (x:=x) (m:=mkT grid (set:Int) k) (c:=acf (grid.take k) (set:Int)) hml ov hs ov hsl) λ_ _=>?_;rw[<- hms,<- hss];refine go ?_;exact aW (k+1) ov ov
 have hke:k=grid.length:=ov
 subst hke;have hmv:(Vm.mkV grid (set:Int)).length=grid.length:=by unfold Vm.mkV;rw[bi]
 rw[dK,azZ];refine go ?_;refine gZ (SC (b:=bm) (f:=0) (c:=grid.length) (xs:=Vm.mkV grid (set:Int))) ?_;rw[show(Vm.mkV grid (set:Int)).length=grid.length by unfold Vm.mkV;rw[bi]];exact gQ bm trivial
def az4{va:ah}{xs:ae Bool}{f:Nat}(hl:xs.length<2^63)(hf:f<xs.length)(hin:dU xs f=true)(hno:∀j,j<f->dU xs (j:Nat)=false):dO Tryz.prog 206 [va,.bool true] [ay lG va xs] (iV (f:Int)):=by
 refine gB 206 λB w0=>?_;refine gF lG va xs λag cg eg=>?_;subst eg;refine gN f 8 (λk=>k<=f) (bI _) ?_;intro k hk;refine aK ?_ ?_<;>intro h1
 .refine go ?_;intro _ _ x hx;have hxb:dU xs (k:Nat)=x:=by unfold dU;rw[fI];simp[List.getD,hx]
  cases x with
  |true=>
   have hkf:k=f:=by
    apply Classical.byContradiction;intro hne;rw[hno k ov]at hxb;cases hxb
   subst hkf;exact dH
  |false=>
   have hkf:k≠f:=λe=>by rw[e,hin]at hxb;cases hxb
   refine go ?_;exact aW (k+1) ov ov
 .omega
def az5{fn:Fn}{first cap:ae ah}{F1:ae aI}{xs:ae Int}(h:GG Tryz.prog (λx:Int=>iV x) fn first cap F1 xs):CO Tryz.prog (λx:Int=>[jT x]) fn first cap F1 (λys=>ys=xs):=by
 intro S inv ok step s0 oM y1 y2 F' h0 hok hstep;have:=h S inv (λk s=>k<=xs.length/\ok (xs.take k) s) step s0 oM y1 y2 F' ⟨bI _,h0⟩ (λk s x hk hx hst=>by
  have hl:=(bz.1 hx).1;have e:xs.take k++x::xs.drop (k+1)=xs:=tS
  refine⟨ov,?_⟩;rw[rP,hx,ama];exact hok _ s x _ hk.2 e hst) (λk s x hk hx=>by
  have hl:=(bz.1 hx).1;have e:xs.take k++x::xs.drop (k+1)=xs:=tS
  exact hstep _ s x _ hk.2 e)
 intro B w s;refine .vQ _ (this B w s) ?_;rintro r pm h' ⟨e,w',y,e1,st',er,hp⟩;exact⟨e,w',xs,e1,st',er,rfl⟩
def az6{qh:ah}{aP:ae Bool}{s:Nat}(hG:jW aH)(hll:∀l∈aH,l.length<2^63)(hin:aP.length=aH.length)(hs:s<aH.length)(hb:dU aP s=true):
 fC Tryz.prog 205 [vn,qh,iV (s:Int)] [ay (aA aj) vn aH,ay lG qh aP] (λa:az Addr=>.tuple ⟨[.slice a (A7 aH aP (s:Int)).length (A7 aH aP (s:Int)).length,iV 0]⟩) (λ_=>True):=by
 have hrl:=az3 (aP:=aP) hG.rg (s:=(s:Int)) ⟨ov,ov⟩;have hgl:=hG.len;refine gB 205 λB w0=>?_;refine gF (aA aj) vn aH λa1 c1 e1=>?_;subst e1;refine gF lG qh aP λa2 c2 e2=>?_;subst e2;refine go ?_;intro b12;refine gP b12 ?_;refine fA (ay (aA lG) (HY b12 1) [aP]) (λw hw=>SV (v:=.slice a2 aP.length c2) (hw _ ox) (hw _ ox)) ?_;refine fH (abJ (g:=aH) (sets:=[aP]) hll ox) (next:=λr hr=>?_);have hr0:r=0:=hr.2 ⟨hG,sF⟩;subst hr0;refine gH ?_ ?_<;>intro g1
 rotate_left
 .exact absurd g1 ov
 refine go ?_;intro _ _ x hx;have hxb:x=true:=by rw[<- hb];unfold dU;rw[fI];simp[List.getD,hx]
 subst hxb;refine gC (amO (g:=aH) (aP:=aP) (s:=(s:Int))) λy _=>?_;refine gC (U8 (X:=λxs=>xs=A7 aH aP (s:Int)) (az5 (amM (b3:=y.1) (b4:=y.2.1) (b5:=y.2.2) (vg:=.slice a1 aH.length c1) (qh:=.slice a2 aP.length c2) (g:=aH) (aP:=aP) (s0:=(s:Int)) hG hll hin ⟨ov,ov⟩)) (λxs hX=>by rw[hX];omega)) λz hz=>?_;obtain⟨v,xs⟩:=z;dsimp only at hz⊢;subst hz;refine EW (E:=aj) (v:=v) (xs:=bW (A7 aH aP (s:Int))) λa hv=>?_;subst hv;rw[AX];refine go ?_;exact gQ a trivial
def az7(hgl:grid.length<=256)(hgr:∀x∈grid,0<=x/\x<16)(hs:set<65536)(hG:jW aH)(hll:∀l∈aH,l.length<2^63)(hn:aH.length=grid.length)(hl:st.length<=100000000){m:Vm.Env}(hm1:m.grid=grid)(hm2:m.aH=aH):
 aY Tryz.prog (.func 156) [ptr' bR,iV (set:Int)] [] [pt bR (.cells (runK C S vv vn vt vi vg vk r0 r1 at_ br en)),sk aj vk (pzR st)] [ay aj vg grid,ay (aA aj) vn aH] (λ_:ah=>.tuple ⟨[]⟩)
  (λv=>[pt bR (.cells (runK C S vv vn vt vi vg v r0 r1 at_ br en)),sk aj v (pzR ((aij m (set:Int):Int)::st))]) (λ_=>[]) (λ_=>True):=by
 have hml:(Vm.mkV grid (set:Int)).length=aH.length:=by unfold Vm.mkV;rw[bi,hn]
 refine gB 156 λB w0=>?_;refine gC (axF (C:=C) (S:=S) (vv:=vv) (vn:=vn) (vt:=vt) (vi:=vi) (vg:=vg) (vk:=vk) (r0:=r0) (r1:=r1) (at_:=at_) (br:=br) (en:=en) (grid:=grid) (set:=set) hgl hgr hs) λbm _=>?_;refine aK ?_ ?_<;>intro h1
 .have hsz:acf grid (set:Int)≠0:=by omega
  have hex:∃i:Nat,i<aH.length/\dU (Vm.mkV grid (set:Int)) (i:Nat)=true:=by
   apply Classical.byContradiction;intro hno;refine hsz ?_;unfold acf;rw[aws,<- ajA,pU,axO];intro x hx;obtain⟨q1,q2,q3⟩:=agt.1 hx;exact hno ⟨x.toNat,ov,by rwa [rR q1]⟩
  obtain⟨f,f1,f2,f3⟩:=atQ hex;have hix:=awt (aP:=Vm.mkV grid (set:Int)) ov f2 f3;have hrv:aij m (set:Int)=(A7 aH (Vm.mkV grid (set:Int)) (f:Int)).length:=by
   unfold aij;rw[hm1,hm2,if_neg hsz,hix]
  refine gC (az4 (xs:=Vm.mkV grid (set:Int)) (f:=f) ov ov f2 f3) λ_ _=>?_;refine gC (az6 (vn:=vn) (aH:=aH) (aP:=Vm.mkV grid (set:Int)) (s:=f) hG hll hml f1 f2) λa _=>?_;rw[<- hrv];refine gC (ade (C:=C) (S:=S) (vv:=vv) (vn:=vn) (vt:=vt) (vi:=vi) (vg:=vg) (vk:=vk) (r0:=r0) (r1:=r1) (at_:=at_) (br:=br) (en:=en) (x:=(aij m (set:Int):Int)) hl) λv1 _=>?_;refine go ?_;exact gQ v1 trivial
 .have hsz:acf grid (set:Int)=0:=by omega
  have hrv:aij m (set:Int)=0:=by unfold aij;rw[hm1,if_pos hsz]
  rw[hsz];refine gC (ade (C:=C) (S:=S) (vv:=vv) (vn:=vn) (vt:=vt) (vi:=vi) (vg:=vg) (vk:=vk) (r0:=r0) (r1:=r1) (at_:=at_) (br:=br) (en:=en) (x:=((0:Nat):Int)) hl) λv1 _=>?_;rw[hrv];refine go ?_;exact gQ v1 trivial
end
end Go.Proofs.YtgimfpcgbmpkhaaGreat
namespace Go.Proofs.YtgimfpcgbmpkhaaGreat
open Go.Ideal Gph Vm
abbrev y9(fn:Fn)(a:Int)(F:ae aI)(C S:Int)(vv vn vt vi vg:ah)(bR:Nat)(st:ae Int)(r0 r1 at_ br:Int)(en:Bool)(st':ae Int)(r0' r1' at' br':Int)(en':Bool):Prop:=
 ∀vk:ah,aY Tryz.prog fn [ptr' bR,iV a] [] [pt bR (.cells (runK C S vv vn vt vi vg vk r0 r1 at_ br en)),sk aj vk (pzR st)] F (λ_:ah=>.tuple ⟨[]⟩) (λv=>[pt bR (.cells (runK C S vv vn vt vi vg v r0' r1' at' br' en')),sk aj v (pzR st')]) (λ_=>[]) (λ_=>True)
section
variable {C S:Int} {vv vn vt vi vg vk:ah} {r0 r1 at_ br:Int} {en:Bool} {bR:Nat} {st:ae Int} {grid values:ae Int} {aH tables:ae (ae Int)} {a x y:Int}
def az9(hl:st.length<=90000000):y9 (.func 139) a [] C S vv vn vt vi vg bR st r0 r1 at_ br en (a::st) r0 r1 at_ br en:=by
 intro vk;refine gB 139 λB w0=>?_;refine gC (ade (C:=C) (S:=S) (vv:=vv) (vn:=vn) (vt:=vt) (vi:=vi) (vg:=vg) (r0:=r0) (r1:=r1) (at_:=at_) (br:=br) (en:=en) (st:=st) (x:=a) ov) λv1 _=>?_;refine go ?_;exact gQ v1 trivial
variable{k:Nat}
def aAa(hx:grid[k]? =some x)(hl:st.length<=90000000):y9 (.func 141) (k:Int) [ay aj vg grid] C S vv vn vt vi vg bR st r0 r1 at_ br en (x::st) r0 r1 at_ br en:=by
 intro vk;have hk:=(bz.1 hx).1;refine gB 141 λB w0=>?_;refine go ?_;intro _ _ y hy;cases hy.symm.trans hx;refine gC (ade (C:=C) (S:=S) (vv:=vv) (vn:=vn) (vt:=vt) (vi:=vi) (vg:=vg) (r0:=r0) (r1:=r1) (at_:=at_) (br:=br) (en:=en) (st:=st) (x:=x) ov) λv1 _=>?_;refine go ?_;exact gQ v1 trivial
def aAb{v:Int}(hx:values[k]? =some v)(hl:st.length<=90000000):y9 (.func 142) a [ay aj vv values] C S vv vn vt vi vg bR ((k:Int)::st) r0 r1 at_ br en (v::st) r0 r1 at_ br en:=by
 intro vk;have hk:=(bz.1 hx).1;refine gB 142 λB w0=>?_;refine gC (acO (C:=C) (S:=S) (vv:=vv) (vn:=vn) (vt:=vt) (vi:=vi) (vg:=vg) (r0:=r0) (r1:=r1) (at_:=at_) (br:=br) (en:=en) (st:=st) (x:=(k:Int)) pe) λv0 _=>?_;refine go ?_;intro _ _ y hy;cases hy.symm.trans hx;refine gC (ade (C:=C) (S:=S) (vv:=vv) (vn:=vn) (vt:=vt) (vi:=vi) (vg:=vg) (r0:=r0) (r1:=r1) (at_:=at_) (br:=br) (en:=en) (st:=st) (x:=v) ov) λv1 _=>?_;refine go ?_;exact gQ v1 trivial
def aAc(s k:Nat):((s>>>k&&&1:Nat):Int)=bV (s.testBit k):=by
 rw[Nat.testBit,Nat.and_comm,Nat.one_and_eq_mod_two];have:s>>>k%2=0\/s>>>k%2=1:=ov
 rcases this with h|h<;>simp[h,bV]
def aAd{s:Nat}(hs:s<65536)(hk:k<64)(hl:st.length<=90000000):y9 (.func 144) (s:Int) [] C S vv vn vt vi vg bR ((k:Int)::st) r0 r1 at_ br en (bV (s.testBit k)::st) r0 r1 at_ br en:=by
 intro vk;refine gB 144 λB w0=>?_;refine gC (acO (C:=C) (S:=S) (vv:=vv) (vn:=vn) (vt:=vt) (vi:=vi) (vg:=vg) (r0:=r0) (r1:=r1) (at_:=at_) (br:=br) (en:=en) (st:=st) (x:=(k:Int)) pe) λv0 _=>?_;refine go ?_;refine(dx rfl rfl (J2 (a:=s) (b:=k) rfl rfl ov)).h ?_;refine(dx rfl rfl (J3 (b:=1) rfl rfl (IY (Nat.shiftRight_le _ _) ov) ov)).h ?_;rw[aAc];refine gC (ade (C:=C) (S:=S) (vv:=vv) (vn:=vn) (vt:=vt) (vi:=vi) (vg:=vg) (r0:=r0) (r1:=r1) (at_:=at_) (br:=br) (en:=en) (st:=st) (x:=bV (s.testBit k)) ov) λv1 _=>?_;refine go ?_;exact gQ v1 trivial
def aAe(hx: -1073741824<=x/\x<=1073741824)(hy: -1073741824<=y/\y<=1073741824)(hl:st.length<=90000000):y9 (.func 145) a [] C S vv vn vt vi vg bR (x::y::st) r0 r1 at_ br en ((x+y)::st) r0 r1 at_ br en:=by
 intro vk;refine gB 145 λB w0=>?_;refine gC (acO (C:=C) (S:=S) (vv:=vv) (vn:=vn) (vt:=vt) (vi:=vi) (vg:=vg) (r0:=r0) (r1:=r1) (at_:=at_) (br:=br) (en:=en) (st:=y::st) (x:=x) pe) λv0 _=>?_;refine gC (acO (C:=C) (S:=S) (vv:=vv) (vn:=vn) (vt:=vt) (vi:=vi) (vg:=vg) (r0:=r0) (r1:=r1) (at_:=at_) (br:=br) (en:=en) (st:=st) (x:=y) pe) λv1 _=>?_;refine gC (ade (C:=C) (S:=S) (vv:=vv) (vn:=vn) (vt:=vt) (vi:=vi) (vg:=vg) (r0:=r0) (r1:=r1) (at_:=at_) (br:=br) (en:=en) (st:=st) (x:=x+y) ov) λv2 _=>?_;refine go ?_;exact gQ v2 trivial
def aAf(hl:st.length<=90000000):y9 (.func 146) a [] C S vv vn vt vi vg bR (x::y::st) r0 r1 at_ br en (bV (decide (x=y))::st) r0 r1 at_ br en:=by
 intro vk;refine gB 146 λB w0=>?_;refine gC (acO (C:=C) (S:=S) (vv:=vv) (vn:=vn) (vt:=vt) (vi:=vi) (vg:=vg) (r0:=r0) (r1:=r1) (at_:=at_) (br:=br) (en:=en) (st:=y::st) (x:=x) pe) λv0 _=>?_;refine gC (acO (C:=C) (S:=S) (vv:=vv) (vn:=vn) (vt:=vt) (vi:=vi) (vg:=vg) (r0:=r0) (r1:=r1) (at_:=at_) (br:=br) (en:=en) (st:=st) (x:=y) pe) λv1 _=>?_;refine gC (avY (C:=C) (S:=S) (vv:=vv) (vn:=vn) (vt:=vt) (vi:=vi) (vg:=vg) (r0:=r0) (r1:=r1) (at_:=at_) (br:=br) (en:=en) (st:=st) (p:=decide (x=y)) ov) λv2 _=>?_;refine go ?_;exact gQ v2 trivial
def aAg(hl:st.length<=90000000):y9 (.func 148) a [] C S vv vn vt vi vg bR (x::y::st) r0 r1 at_ br en (bV (decide (y<x))::st) r0 r1 at_ br en:=by
 intro vk;refine gB 148 λB w0=>?_;refine gC (acO (C:=C) (S:=S) (vv:=vv) (vn:=vn) (vt:=vt) (vi:=vi) (vg:=vg) (r0:=r0) (r1:=r1) (at_:=at_) (br:=br) (en:=en) (st:=y::st) (x:=x) pe) λv0 _=>?_;refine gC (acO (C:=C) (S:=S) (vv:=vv) (vn:=vn) (vt:=vt) (vi:=vi) (vg:=vg) (r0:=r0) (r1:=r1) (at_:=at_) (br:=br) (en:=en) (st:=st) (x:=y) pe) λv1 _=>?_;refine gC (avY (C:=C) (S:=S) (vv:=vv) (vn:=vn) (vt:=vt) (vi:=vi) (vg:=vg) (r0:=r0) (r1:=r1) (at_:=at_) (br:=br) (en:=en) (st:=st) (p:=decide (y<x)) ov) λv2 _=>?_;refine go ?_;exact gQ v2 trivial
def aAh(hl:st.length<=90000000):y9 (.func 149) a [] C S vv vn vt vi vg bR (x::st) r0 r1 at_ br en (bV (decide (x=0))::st) r0 r1 at_ br en:=by
 intro vk;refine gB 149 λB w0=>?_;refine gC (acO (C:=C) (S:=S) (vv:=vv) (vn:=vn) (vt:=vt) (vi:=vi) (vg:=vg) (r0:=r0) (r1:=r1) (at_:=at_) (br:=br) (en:=en) (st:=st) (x:=x) pe) λv0 _=>?_;refine gC (avY (C:=C) (S:=S) (vv:=vv) (vn:=vn) (vt:=vt) (vi:=vi) (vg:=vg) (r0:=r0) (r1:=r1) (at_:=at_) (br:=br) (en:=en) (st:=st) (p:=decide (x=0)) ov) λv2 _=>?_;refine go ?_;exact gQ v2 trivial
def aAi(hl:st.length<=90000000):y9 (.func 150) 0 [] C S vv vn vt vi vg bR (x::st) r0 r1 at_ br en st x r1 at_ br en:=by
 exact cW
def aAj(hl:st.length<=90000000):y9 (.func 150) 1 [] C S vv vn vt vi vg bR (x::st) r0 r1 at_ br en st r0 x at_ br en:=by
 exact cW
def aAk(hl:st.length<=90000000):y9 (.func 151) 0 [] C S vv vn vt vi vg bR st r0 r1 at_ br en (r0::st) r0 r1 at_ br en:=by
 intro vk;refine gB 151 λB w0=>?_;refine gC (ade (C:=C) (S:=S) (vv:=vv) (vn:=vn) (vt:=vt) (vi:=vi) (vg:=vg) (r0:=r0) (r1:=r1) (at_:=at_) (br:=br) (en:=en) (st:=st) (x:=r0) ov) λv0 _=>?_;refine go ?_;exact gQ v0 trivial
def aAl(hl:st.length<=90000000):y9 (.func 151) 1 [] C S vv vn vt vi vg bR st r0 r1 at_ br en (r1::st) r0 r1 at_ br en:=by
 intro vk;refine gB 151 λB w0=>?_;refine gC (ade (C:=C) (S:=S) (vv:=vv) (vn:=vn) (vt:=vt) (vi:=vi) (vg:=vg) (r0:=r0) (r1:=r1) (at_:=at_) (br:=br) (en:=en) (st:=st) (x:=r1) ov) λv0 _=>?_;refine go ?_;exact gQ v0 trivial
def aAm{t:ae Int}(ht:tables[k]? =some t)(htl:t.length<2^63)(hl:st.length<=90000000):y9 (.func 152) (k:Int) [ay (aA aj) vt tables] C S vv vn vt vi vg bR (x::st) r0 r1 at_ br en (pkV t x::st) r0 r1 at_ br en:=by
 intro vk;have hk:=(bz.1 ht).1;refine gB 152 λB w0=>?_;refine gF (aA aj) vt tables λa0 c0 e0=>?_;subst e0;refine gX (aA aj) (xs:=tables) (k:=k) λ_ _ t' (vt':ah) ht'=>?_;cases ht'.symm.trans ht;refine gF aj vt' t λa1 c1 e1=>?_;subst e1;refine gC (acO (C:=C) (S:=S) (vv:=vv) (vn:=vn) (vt:=.slice a0 tables.length c0) (vi:=vi) (vg:=vg) (r0:=r0) (r1:=r1) (at_:=at_) (br:=br) (en:=en) (st:=st) (x:=x) ov) λv0 _=>?_;generalize ev0:Value.slice a0 tables.length c0=vt;refine gH ?_ ?_<;>intro g1
 rotate_left
 .rw[show pkV t x= -1 by unfold pkV;rw[if_neg ov]];exact ez
 obtain⟨i,rfl⟩:=dW (show 0<=x by omega);refine aK ?_ ?_<;>intro h2
 .rw[show pkV t (i:Int)= -1 by unfold pkV;rw[if_pos ov,fI,DV,fT ov];rfl];exact ez
 .refine go ?_;intro _ _ y hy;rw[show pkV t (i:Int)=y by unfold pkV;rw[if_pos ov,fI];simp[List.getD,hy]];refine gC (ade (C:=C) (S:=S) (vv:=vv) (vn:=vn) (vt:=vt) (vi:=vi) (vg:=vg) (r0:=r0) (r1:=r1) (at_:=at_) (br:=br) (en:=en) (st:=st) (x:=y) ov) λv1 _=>?_;refine go ?_;exact gQ v1 trivial
variable{p:Nat}
def aAo(hl:st.length<=90000000)(ha:0<=a/\a<=90000000)(hp:p<=90000000):y9 (.func 153) a [] C S vv vn vt vi vg bR (0::st) r0 r1 (p:Int) br en st r0 r1 ((p:Int)+a) br en:=by
 intro vk;refine gB 153 λB w0=>?_;refine gC (acO (C:=C) (S:=S) (vv:=vv) (vn:=vn) (vt:=vt) (vi:=vi) (vg:=vg) (r0:=r0) (r1:=r1) (at_:=(p:Int)) (br:=br) (en:=en) (st:=st) (x:=0) ov) λv0 _=>?_;refine go ?_;exact gQ v0 trivial
def aAp(hx:x≠0)(hl:st.length<=90000000):y9 (.func 153) a [] C S vv vn vt vi vg bR (x::st) r0 r1 at_ br en st r0 r1 at_ br en:=by
 intro vk;refine gB 153 λB w0=>?_;refine gC (acO (C:=C) (S:=S) (vv:=vv) (vn:=vn) (vt:=vt) (vi:=vi) (vg:=vg) (r0:=r0) (r1:=r1) (at_:=at_) (br:=br) (en:=en) (st:=st) (x:=x) pe) λv0 _=>?_;refine aK (λh=>absurd h hx) (λ_=>?_);refine go ?_;exact gQ v0 trivial
def aAq{set:Nat}(hgl:grid.length<=256)(hgr:∀x∈grid,0<=x/\x<16)(hs:set<65536)(hl:st.length<=90000000):y9 (.func 154) (set:Int) [ay aj vg grid] C S vv vn vt vi vg bR st r0 r1 at_ br en ((acf grid (set:Int):Int)::st) r0 r1 at_ br en:=by
 intro vk;refine gB 154 λB w0=>?_;refine gC (axF (C:=C) (S:=S) (vv:=vv) (vn:=vn) (vt:=vt) (vi:=vi) (vg:=vg) (vk:=vk) (r0:=r0) (r1:=r1) (at_:=at_) (br:=br) (en:=en) (grid:=grid) (set:=set) hgl hgr hs) λbm _=>?_;refine gC (ade (C:=C) (S:=S) (vv:=vv) (vn:=vn) (vt:=vt) (vi:=vi) (vg:=vg) (r0:=r0) (r1:=r1) (at_:=at_) (br:=br) (en:=en) (st:=st) (x:=(acf grid (set:Int):Int)) ov) λv1 _=>?_;refine go ?_;exact gQ v1 trivial
def aAr(hl:st.length<=90000000)(hp:p<=90000000):y9 (.func 157) a [] C S vv vn vt vi vg bR (0::st) r0 r1 ((p+1:Nat):Int) br en st r0 r1 (p:Int) a true:=by
 intro vk;refine gB 157 λB w0=>?_;refine gC (acO (C:=C) (S:=S) (vv:=vv) (vn:=vn) (vt:=vt) (vi:=vi) (vg:=vg) (r0:=r0) (r1:=r1) (at_:=((p+1:Nat):Int)) (br:=br) (en:=en) (st:=st) (x:=0) ov) λv0 _=>?_;refine go ?_;rw[show((p+1:Nat):Int) - 1=(p:Int)by omega];refine go ?_;exact gQ v0 trivial
def aAs(hx:x≠0)(hl:st.length<=90000000):y9 (.func 157) a [] C S vv vn vt vi vg bR (x::st) r0 r1 at_ br en st r0 r1 at_ br en:=by
 intro vk;refine gB 157 λB w0=>?_;refine gC (acO (C:=C) (S:=S) (vv:=vv) (vn:=vn) (vt:=vt) (vi:=vi) (vg:=vg) (r0:=r0) (r1:=r1) (at_:=at_) (br:=br) (en:=en) (st:=st) (x:=x) pe) λv0 _=>?_;refine aK (λh=>absurd h hx) (λ_=>?_);refine go ?_;exact gQ v0 trivial
end
abbrev fn0(f:gy):ah:=.func (.func f) ⟨[]⟩ ⟨[]⟩
def avs:ae ah:=[.nilFunc,fn0 139,fn0 141,fn0 142,fn0 144,fn0 145,fn0 146,fn0 148,fn0 149,fn0 150,fn0 151,fn0 152,fn0 153,fn0 154,fn0 156,fn0 157]
def aAt:aY Tryz.prog (.func 53) [] [] [] [] (λb:Nat=>ptr' b) (λ_=>[]) (λb=>[aX b 0 avs]) (λ_=>True):=by
 refine gB 53 λB w0=>?_;refine go ?_;intro b1;refine go ?_;refine mI (ail (b:=b1) (cs:=avs)) (hk:=.here) (h:=?_);exact gQ b1 trivial
structure atx where
 vk:Value
 st:List Int
 r0:Int
 r1:Int
 at_:Nat
 br:Int
 en:Bool
def av0(m:Vm.Env)(prog:ae Ins)(aG:Nat)(c K:Nat)(b:Int)(st0:ae Int)(y:atx):Prop:=
 ∃K',K=c+K'/\y.st.length<=st0.length+1/\((y.en=true/\y.br=b/\K'=0/\aG<=y.at_)\/(y.en=false/\y.br= -1/\aG<y.at_/\y.at_<prog.length/\Run m (prog.drop y.at_) y.st [y.r0,y.r1] K' b))
structure axH(m:Vm.Env)(prog:List Ins):Prop where
 pl:prog.length<=40000000
 gl:m.grid.length<=256
 gr:∀x∈m.grid,0<=x/\x<16
 ng:jW m.aH
 nl:∀l∈m.aH,l.length<2^63
 nn:m.aH.length=m.grid.length
 tl:∀t∈m.tables,t.length<2^63
variable{prog tl:ae Ins}{i:Ins}
def aAu{k:Nat}(h:prog.drop k=i::tl):k<prog.length/\prog[k]? =some i/\prog.drop (k+1)=tl:=by
 have hl:k<prog.length:=by
  exact fp
 exact ju
variable{m:Vm.Env}{aG K:Nat}{b r0 r1:Int}{st:ae Int}{vk:ah}
def acr{p c:Nat}{st0:ae Int}(hp:aG<p)(hl:p<=prog.length)(hs:st.length<=st0.length+1)(h:Run m (prog.drop p) st [r0,r1] K b):av0 m prog aG c (K+c) b st0 ⟨vk,st,r0,r1,p, -1,decide ((p:Int)=(prog.length:Int))⟩:=by
 refine⟨K,ov,hs,?_⟩;by_cases he:p=prog.length
 .subst he;rw[DY]at h;cases h;exact .inl ⟨eB rfl,rfl,rfl,by show aG<=prog.length;omega⟩
 .exact .inr ⟨dA ov,rfl,hp,by show p<_;omega,h⟩
def av1{C S:Int}{vv vn vt vi vg:ah}{bR bT:Nat}(hS:axH m prog)(hd:prog.drop aG=i::tl)(hl:st.length<=80000000)(hrun:Run m (i::tl) st [r0,r1] K b):
 aY Tryz.prog (.func 54) [ptr' bR,ptr' bT] [] [pt bR (.cells (runK C S vv vn vt vi vg vk r0 r1 (aG:Int) (-1) false)),sk aj vk (pzR st)] [aX bT 0 avs,ay iB vi prog,ay aj vg m.grid,ay aj vv m.values,ay (aA aj) vn m.aH,ay (aA aj) vt m.tables] (λ_:atx=>.tuple ⟨[]⟩)
  (λy=>[pt bR (.cells (runK C S vv vn vt vi vg y.vk y.r0 y.r1 (y.at_:Int) y.br y.en)),sk aj y.vk (pzR y.st)]) (λ_=>[]) (av0 m prog aG (y7 m.grid.length i) K b st):=by
 obtain⟨hat,hget,hnx⟩:=aAu hd;have hpl:=hS.pl;unfold avs;refine gB 54 λB w0=>?_;refine gF iB vi prog λai ci ei=>?_;subst ei;refine gX iB (xs:=prog) (k:=aG) λ_ _ x (_:Unit) hx=>?_;cases hx.symm.trans hget;refine go ?_;intro b4
 cases hrun with
 |const h=>
  rename_i a K;dsimp only;refine go ?_;have hq:st.length<=90000000:=ov
  refine fH ((az9 hq:y9 _ _ _ C S vv vn vt (.slice ai prog.length ci) vg bR _ _ _ _ _ _ _ _ _ _ _ _) vk) (next:=λw1 _=>?_);rw[show(aG:Int)+1=((aG+1:Nat):Int)by omega];refine go ?_;refine gQ ⟨w1,a::st,r0,r1,aG+1, -1,decide (((aG+1:Nat):Int)=(prog.length:Int))⟩ (acr ov ov oS oT)
 |cell h0 hu h=>
  rename_i a x K;obtain⟨k,rfl⟩:=dW h0;rw[fI]at hu;dsimp only;refine go ?_;have hq:st.length<=90000000:=ov
  refine fH ((aAa hu hq:y9 _ _ _ C S vv vn vt (.slice ai prog.length ci) vg bR _ _ _ _ _ _ _ _ _ _ _ _) vk) (next:=λw1 _=>?_);rw[show(aG:Int)+1=((aG+1:Nat):Int)by omega];refine go ?_;refine gQ ⟨w1,x::st,r0,r1,aG+1, -1,decide (((aG+1:Nat):Int)=(prog.length:Int))⟩ (acr ov ov oS oT)
 |val h0 hu h=>
  rename_i a x v st K;obtain⟨k,rfl⟩:=dW h0;rw[fI]at hu;simp only[rJ]at hl;dsimp only;refine go ?_;have hq:st.length<=90000000:=ov
  refine fH ((aAb hu hq:y9 _ _ _ C S vv vn vt (.slice ai prog.length ci) vg bR _ _ _ _ _ _ _ _ _ _ _ _) vk) (next:=λw1 _=>?_);rw[show(aG:Int)+1=((aG+1:Nat):Int)by omega];refine go ?_;refine gQ ⟨w1,v::st,r0,r1,aG+1, -1,decide (((aG+1:Nat):Int)=(prog.length:Int))⟩ (acr ov ov oS oT)
 |aP h0 h1 h2 h3 h=>
  rename_i a x st K;obtain⟨k,rfl⟩:=dW h0;obtain⟨s,rfl⟩:=dW h2;rw[fI,fI]at h;simp only[rJ]at hl;dsimp only;refine go ?_;have hq:st.length<=90000000:=ov
  refine fH ((aAd (s:=s) (k:=k) ov ov hq:y9 _ _ _ C S vv vn vt (.slice ai prog.length ci) vg bR _ _ _ _ _ _ _ _ _ _ _ _) vk) (next:=λw1 _=>?_);rw[show(aG:Int)+1=((aG+1:Nat):Int)by omega];refine go ?_;refine gQ ⟨w1,bV (s.testBit k)::st,r0,r1,aG+1, -1,decide (((aG+1:Nat):Int)=(prog.length:Int))⟩ (acr ov ov oS oT)
 |add h0 h1 h2 h3 h=>
  rename_i a x y st K;simp only[rJ]at hl;dsimp only;refine go ?_;have hq:st.length<=90000000:=ov
  refine fH ((aAe ⟨h0,h1⟩ ⟨h2,h3⟩ hq:y9 _ _ _ C S vv vn vt (.slice ai prog.length ci) vg bR _ _ _ _ _ _ _ _ _ _ _ _) vk) (next:=λw1 _=>?_);rw[show(aG:Int)+1=((aG+1:Nat):Int)by omega];refine go ?_;refine gQ ⟨w1,(x+y)::st,r0,r1,aG+1, -1,decide (((aG+1:Nat):Int)=(prog.length:Int))⟩ (acr ov ov oS oT)
 |eq h=>
  rename_i a x y st K;simp only[rJ]at hl;dsimp only;refine go ?_;have hq:st.length<=90000000:=ov
  refine fH ((aAf hq:y9 _ _ _ C S vv vn vt (.slice ai prog.length ci) vg bR _ _ _ _ _ _ _ _ _ _ _ _) vk) (next:=λw1 _=>?_);rw[show(aG:Int)+1=((aG+1:Nat):Int)by omega];refine go ?_;refine gQ ⟨w1,bV (decide (x=y))::st,r0,r1,aG+1, -1,decide (((aG+1:Nat):Int)=(prog.length:Int))⟩ (acr ov ov oS oT)
 |less h=>
  rename_i a x y st K;simp only[rJ]at hl;dsimp only;refine go ?_;have hq:st.length<=90000000:=ov
  refine fH ((aAg hq:y9 _ _ _ C S vv vn vt (.slice ai prog.length ci) vg bR _ _ _ _ _ _ _ _ _ _ _ _) vk) (next:=λw1 _=>?_);rw[show(aG:Int)+1=((aG+1:Nat):Int)by omega];refine go ?_;refine gQ ⟨w1,bV (decide (y<x))::st,r0,r1,aG+1, -1,decide (((aG+1:Nat):Int)=(prog.length:Int))⟩ (acr ov ov oS oT)
 |not h=>
  rename_i a x st K;simp only[rJ]at hl;dsimp only;refine go ?_;have hq:st.length<=90000000:=ov
  refine fH ((aAh hq:y9 _ _ _ C S vv vn vt (.slice ai prog.length ci) vg bR _ _ _ _ _ _ _ _ _ _ _ _) vk) (next:=λw1 _=>?_);rw[show(aG:Int)+1=((aG+1:Nat):Int)by omega];refine go ?_;refine gQ ⟨w1,bV (decide (x=0))::st,r0,r1,aG+1, -1,decide (((aG+1:Nat):Int)=(prog.length:Int))⟩ (acr ov ov oS oT)
 |store h0 h1 h=>
  rename_i a x st K;simp only[rJ]at hl;have ha:a=0\/a=1:=ov
  rcases ha with rfl|rfl
  .dsimp only;refine go ?_;have hq:st.length<=90000000:=by omega
   refine fH ((aAi hq:y9 _ _ _ C S vv vn vt (.slice ai prog.length ci) vg bR _ _ _ _ _ _ _ _ _ _ _ _) vk) (next:=λw1 _=>?_);rw[show(aG:Int)+1=((aG+1:Nat):Int)by omega];refine go ?_;refine gQ ⟨w1,st,x,r1,aG+1, -1,decide (((aG+1:Nat):Int)=(prog.length:Int))⟩ (acr ov ov oS oT)
  .dsimp only;refine go ?_;have hq:st.length<=90000000:=by omega
   refine fH ((aAj hq:y9 _ _ _ C S vv vn vt (.slice ai prog.length ci) vg bR _ _ _ _ _ _ _ _ _ _ _ _) vk) (next:=λw1 _=>?_);rw[show(aG:Int)+1=((aG+1:Nat):Int)by omega];refine go ?_;refine gQ ⟨w1,st,r0,x,aG+1, -1,decide (((aG+1:Nat):Int)=(prog.length:Int))⟩ (acr ov ov oS oT)
 |acR h0 h1 hx h=>
  rename_i a x K _;have ha:a=0\/a=1:=ov
  rcases ha with rfl|rfl
  .cases hx;dsimp only;refine go ?_;have hq:st.length<=90000000:=by omega
   refine fH ((aAk hq:y9 _ _ _ C S vv vn vt (.slice ai prog.length ci) vg bR _ _ _ _ _ _ _ _ _ _ _ _) vk) (next:=λw1 _=>?_);rw[show(aG:Int)+1=((aG+1:Nat):Int)by omega];refine go ?_;refine gQ ⟨w1,r0::st,r0,r1,aG+1, -1,decide (((aG+1:Nat):Int)=(prog.length:Int))⟩ (acr ov ov oS oT)
  .cases hx;dsimp only;refine go ?_;have hq:st.length<=90000000:=by omega
   refine fH ((aAl hq:y9 _ _ _ C S vv vn vt (.slice ai prog.length ci) vg bR _ _ _ _ _ _ _ _ _ _ _ _) vk) (next:=λw1 _=>?_);rw[show(aG:Int)+1=((aG+1:Nat):Int)by omega];refine go ?_;refine gQ ⟨w1,r1::st,r0,r1,aG+1, -1,decide (((aG+1:Nat):Int)=(prog.length:Int))⟩ (acr ov ov oS oT)
 |pick h0 ht h=>
  rename_i a x t st K;obtain⟨k,rfl⟩:=dW h0;rw[fI]at ht;simp only[rJ]at hl;dsimp only;refine go ?_;have hq:st.length<=90000000:=ov
  refine fH ((aAm ht (hS.tl _ (aV ht)) hq:y9 _ _ _ C S vv vn vt (.slice ai prog.length ci) vg bR _ _ _ _ _ _ _ _ _ _ _ _) vk) (next:=λw1 _=>?_);rw[show(aG:Int)+1=((aG+1:Nat):Int)by omega];refine go ?_;refine gQ ⟨w1,pkV t x::st,r0,r1,aG+1, -1,decide (((aG+1:Nat):Int)=(prog.length:Int))⟩ (acr ov ov oS oT)
 |aoP h0 h1 h=>
  rename_i a st K;obtain⟨k,rfl⟩:=dW h0;rw[fI]at h1 h;simp only[rJ]at hl;have htl:tl.length=prog.length - (aG+1):=by rw[<- hnx,uo]
  have hdd:prog.drop (aG+1+k)=tl.drop k:=by rw[<- hnx,avt]
  dsimp only;refine go ?_;have hq:st.length<=90000000:=ov
  rw[show(aG:Int)+1=((aG+1:Nat):Int)by omega];refine fH ((aAo (p:=aG+1) hq ⟨ov,ov⟩ ov:y9 _ _ _ C S vv vn vt (.slice ai prog.length ci) vg bR _ _ _ _ _ _ _ _ _ _ _ _) vk) (next:=λw1 _=>?_);rw[show((aG+1:Nat):Int)+(k:Int)=((aG+1+k:Nat):Int)by omega];refine go ?_;refine gQ ⟨w1,st,r0,r1,aG+1+k, -1,decide (((aG+1+k:Nat):Int)=(prog.length:Int))⟩ (acr ov ov (by simp only[rJ];omega) (by rw[hdd];exact h))
 |atP hu h=>
  rename_i a x st K;simp only[rJ]at hl;dsimp only;refine go ?_;have hq:st.length<=90000000:=ov
  refine fH ((aAp hu hq:y9 _ _ _ C S vv vn vt (.slice ai prog.length ci) vg bR _ _ _ _ _ _ _ _ _ _ _ _) vk) (next:=λw1 _=>?_);exact dy
 |size h0 h1 h=>
  rename_i a K;obtain⟨k,rfl⟩:=dW h0;dsimp only;refine go ?_;have hq:st.length<=90000000:=ov
  refine fH ((aAq (set:=k) hS.gl hS.gr ov hq:y9 _ _ _ C S vv vn vt (.slice ai prog.length ci) vg bR _ _ _ _ _ _ _ _ _ _ _ _) vk) (next:=λw1 _=>?_);rw[show(aG:Int)+1=((aG+1:Nat):Int)by omega];refine go ?_;refine gQ ⟨w1,(acf m.grid (k:Int):Int)::st,r0,r1,aG+1, -1,decide (((aG+1:Nat):Int)=(prog.length:Int))⟩ (acr ov ov oS oT)
 |reach h0 h1 h=>
  rename_i a K;obtain⟨k,rfl⟩:=dW h0;dsimp only;refine gC (az7 (C:=C) (S:=S) (vv:=vv) (vn:=vn) (vt:=vt) (vi:=.slice ai prog.length ci) (vg:=vg) (vk:=vk) (r0:=r0) (r1:=r1) (br:= -1) (en:=false) (st:=st) (m:=m) (set:=k) hS.gl hS.gr ov hS.ng hS.nl hS.nn ov rfl rfl) λw1 _=>?_;rw[show(aG:Int)+1=((aG+1:Nat):Int)by omega];refine go ?_;refine gQ ⟨w1,(aij m (k:Int):Int)::st,r0,r1,aG+1, -1,decide (((aG+1:Nat):Int)=(prog.length:Int))⟩ (acr ov ov oS oT)
 |avB=>
  rename_i st;simp only[rJ]at hl;dsimp only;refine go ?_;have hq:st.length<=90000000:=ov
  rw[show(aG:Int)+1=((aG+1:Nat):Int)by omega];refine fH ((aAr (p:=aG) hq ov:y9 _ _ _ C S vv vn vt (.slice ai prog.length ci) vg bR _ _ _ _ _ _ _ _ _ _ _ _) vk) (next:=λw1 _=>?_);refine go ?_;exact gQ ⟨w1,st,r0,r1,aG,b,true⟩ ⟨0,rfl,by simp only[rJ];omega,.inl ⟨rfl,rfl,rfl,bG _⟩⟩
 |awn hu h=>
  rename_i a x st K;simp only[rJ]at hl;dsimp only;refine go ?_;have hq:st.length<=90000000:=ov
  refine fH ((aAs hu hq:y9 _ _ _ C S vv vn vt (.slice ai prog.length ci) vg bR _ _ _ _ _ _ _ _ _ _ _ _) vk) (next:=λw1 _=>?_);exact dy
