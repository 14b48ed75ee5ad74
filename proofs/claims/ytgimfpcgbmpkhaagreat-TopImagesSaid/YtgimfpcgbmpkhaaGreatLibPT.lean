/- Part. -/
import Derived.Test.YtgimfpcgbmpkhaaGreatLibOT
import Derived.Test.YtgimfpcgbmpkhaaGreatShelfT
set_option linter.all false
set_option maxRecDepth 10000
set_option maxHeartbeats 4000000
namespace Go.Proofs.YtgimfpcgbmpkhaaGreat
open Tryz (prog)
open Go.Ideal Kd Canon
def aet:∀xs:ae Int,D9 (xs.map (.int .u8))=some (xs.map λx=>UInt8.ofNat x.toNat)\/∃x∈xs,x<0
 |[]=>.inl rfl
 |x::xs=>by
  rcases aet xs with h|⟨y,hy,h⟩
  .by_cases hx:x<0
   .exact .inr ⟨x,eX ..,hx⟩
   .left;obtain⟨n,rfl⟩:=dW (by omega:0<=x);rw[iX];show(match (Value.int .u8 (n:Int)),D9 (xs.map (.int .u8))with| .int .u8 k,some r=>some (UInt8.ofNat k.toNat::r)|_,_=>none)=_;rw[h];rfl
  .exact .inr ⟨y,fP _ hy,h⟩
variable{n d b m:Nat}{xs:ae Int}{B:ae Nat}{w0:Wd}{kl kl':ae OA}{F:ae aI}
def asT{K:KO}{ds:ae Tmp}{rest:ae bV}{l:qr}{D:ae Deferred}{pm:az FrameMode}{ro:az Nat}{g:az (Tmp×Bool)}{x:aB}(hm:xs.length=m)(hx0:∀x∈xs,0<=x)(next:R (λh=>aO prog ds rest (act n ((d,.string ⟨⟨xs.map λx=>UInt8.ofNat x.toNat⟩⟩)::l) D pm ro) h K) B w0 kl F)
 (hx:ev l x=.slice (some ⟨b,0,some 0⟩) m m:=by rfl) (hk:aD (pt b (.cells (xs.map (.int .u8)))) kl kl':=by repeat (first|exact aD.here|apply aD.there)) (hn:Nat.blt d n=true:=by rfl) (hg:bJ l g=true:=by rfl):
 R (λh=>aO prog ds (⟨⟨some d,g,.I4 x⟩,[]⟩::rest) (act n l D pm ro) h K) B w0 kl F:=
 (aiL hn hg (v:=.string ⟨⟨xs.map λx=>UInt8.ofNat x.toNat⟩⟩) λw s=>by
   have hr:w.h.je b 0 m=some (xs.map (.int .u8)):=by
    rw[(s.at_ hk).cX.je,qw,qM,za,if_pos vj,<- hm];congr 1;exact Ag (by rw[bi];exact bG _)
   have hb:D9 (xs.map (.int .u8))=some (xs.map λx=>UInt8.ofNat x.toNat):=by
    rcases aet xs with h|⟨y,hy,h⟩
    .exact h
    .have:=hx0 y hy;omega
   simp only[aR.run,hx,hr,hb]).h next
def DF(p:ae Int):ByteArray:=⟨⟨(p.map λx=>IntKind.u8.wrap x).map λx=>UInt8.ofNat x.toNat⟩⟩
def yV(ks:ae ByteArray):ae (ByteArray×ah):=ks.map λk=>(k,.bool true)
def II(k:ByteArray)(ks:ae ByteArray):Bool:=ks.any λc=>decide (k=c)
def aeu{k:ByteArray}:∀{ks:ae ByteArray},II k ks=false->upd k (.bool true) (yV ks)=yV (ks++[k])
 |[],_=>rfl
 |c::ks,h=>by
  unfold II at h;rw[List.any_cons,Bool.or_eq_false_iff]at h;have h1:k≠c:=wS h.1;show(if k=c then _ else(c,Value.bool true)::upd k (.bool true) (yV ks))=_;rw[if_neg h1,aeu h.2];rfl
def aev{k:ByteArray}:∀{ks:ae ByteArray},kw false (.bool false) k (yV ks)=.bool (II k ks)
 |[]=>rfl
 |c::ks=>by
  have ih:=aev (k:=k) (ks:=ks);unfold kw at ih⊢;have e:dM k (yV (c::ks))=if k=c then some (Value.bool true)else dM k (yV ks):=rfl
  rw[e];unfold II at ih⊢;rw[List.any_cons];by_cases h:k=c
  .rw[if_pos h,eB h,Bool.true_or];rfl
  .rw[if_neg h,dA h,QG];exact ih
abbrev sK:=ae ByteArray×ae (ae Int)
def wL(z:sK)(p:ae Int):sK:=if II (DF p) z.1=true then z else(z.1++[DF p],z.2++[p])
def nE(z:sK)(more:ae (ae Int)):sK:=more.foldl wL z
variable{p:ae Int}{z:sK}
def asU:(wL z p).2.length<=z.2.length+1:=by
 unfold wL;split
 .omega
 .rw[fu,DZ];exact bG _
def DI:∀(more:ae (ae Int)) (z:sK),(nE z more).2.length<=z.2.length+more.length
 |[],z=>bG _
 |p::more,z=>by
  have h1:=DI more (wL z p);have h2:=asU (z:=z) (p:=p);show(nE (wL z p) more).2.length<=_;rw[rJ];omega
variable{q:ae Int}
def asV(h:q∈(wL z p).2):q∈z.2\/q=p:=by
 unfold wL at h;split at h
 .exact .inl h
 .rcases fU.1 h with h|h
  .exact .inl h
  .exact .inr (bR.1 h)
def Wy{q:ae Int}:∀(more:ae (ae Int)) (z:sK),q∈(nE z more).2->q∈z.2\/q∈more
 |[],z,h=>.inl h
 |p::more,z,h=>by
  rcases Wy more (wL z p) h with h|h
  .rcases asV h with h|h
   .exact .inl h
   .exact .inr (by rw[h];exact eX ..)
  .exact .inr (fP _ h)
def asW(x:Int):0<=IntKind.u8.wrap x/\IntKind.u8.wrap x<256:=by
 show 0<=x%256/\x%256<256;omega
variable{b2 bm:Nat}{v:ah}
def Qz{b3:Nat}{e:Int}{more:ae (ae Int)}(hm:z.2.length+more.length<=40000000)(hl:∀p∈more,p.length<=1000000):
 aY prog (.func 207) [v,iV e] [ptr' b3,ptr' b2] [pt b3 (.cells [.map (some bm)]),ic jd bm (yV z.1),Fv b2 z.2.length z.2] [ay (aA aj) v more] (λ_:Unit=>.tuple ⟨[]⟩)
  (λ_=>[pt b3 (.cells [.map (some bm)]),ic jd bm (yV (nE z more).1),Fv b2 (nE z more).2.length (nE z more).2]) (λ_=>[]) (λ_=>True):=by
 refine gB 207 λB w0=>?_;refine gF (aA aj) v more λal cl el=>?_;subst el;refine go ?_;refine dL (λi:Nat=>more.length - i) (λi=>[(14,iV (i:Int))]) (λi=>[ic jd bm (yV (nE z (more.take i)).1),Fv b2 (nE z (more.take i)).2.length (nE z (more.take i)).2]) (λ_=>[]) (λi=>i<=more.length) 0 (bI _) (hk:=tc) (body:=?_);intro i hi;refine aK ?_ ?_<;>intro h1
 rotate_left
 .obtain rfl:i=more.length:=by omega
  rw[dK];exact dH
 refine gX (aA aj) (xs:=more) λ_ _ p (vp:ah) hp=>?_;have hpl:=hl p (aV hp);refine gF aj vp p λaq cp ep=>?_;subst ep;have hz:=DI (more.take i) z;rw[gW]at hz;have hst:nE z (more.take (i+1))=wL (nE z (more.take i)) p:=by unfold nE;rw[fq hp,vJ];rfl
 generalize hze:nE z (more.take i)=y at *;refine go ?_;refine qA p.length ⟨s6,s6,s6⟩ λbb=>?_;have hzb:zeros [Value.int .u8 0] p.length=((iP ((p.take 0).map λx=>IntKind.u8.wrap x) p.length).map (.int .u8)):=by
  show _=(iP [] p.length).map (Value.int .u8);rw[ada];induction p.length with
  |zero=>rfl
  |succ n ih=>rw[wR,iX,<- ih];rfl
 rw[hzb];refine go ?_;refine dL (λj:Nat=>p.length - j) (λj=>[(23,iV (j:Int))]) (λj=>[pt bb (.cells ((iP ((p.take j).map λx=>IntKind.u8.wrap x) p.length).map (.int .u8)))]) (λ_=>[]) (λj=>j<=p.length) 0 (bI _) (hk:=tc) (body:=?_);intro j hj;have hjl:((p.take j).map λx=>IntKind.u8.wrap x).length=j:=us
 refine aK ?_ ?_<;>intro h2
 .refine go ?_;intro _ _ x hx;refine go ?_;refine(dx rfl rfl (xA (k:=.u8) (m:=IntKind.u8.wrap x) (by kernel_rfl:prog.underlying 3=some (.int .i64)) s8 rfl rfl)).h ?_;refine go ?_;refine jN (b:=bb) (o:=0+j*1) (cs:=(iP ((p.take j).map λx=>IntKind.u8.wrap x) p.length).map (.int .u8)) (v:=.int .u8 (IntKind.u8.wrap x)) (cs':=(iP ((p.take (j+1)).map λx=>IntKind.u8.wrap x) p.length).map (.int .u8)) FA Fc ?_;exact dg
 obtain rfl:j=p.length:=s6
 rw[dK]at hjl⊢;rw[Fa hjl];refine go ?_;refine asT (b:=bb) (m:=p.length) (xs:=p.map λx=>IntKind.u8.wrap x) hjl (λx hx=>by obtain⟨u,_,rfl⟩:=cO.1 hx;exact(asW u).1) ?_;rw[show(⟨⟨(p.map λx=>IntKind.u8.wrap x).map λx=>UInt8.ofNat x.toNat⟩⟩:ByteArray)=DF p from rfl];refine go ?_;refine EI wD (DF p) ?_ (ha:=rfl);rw[aev];cases hb:II (DF p) y.1 with
 |true=>
  have hy:wL y p=y:=by unfold wL;rw[if_pos hb]
  rw[hy]at hst;refine go ?_;rw[<- hst];exact fR
 |false=>
  have hy:wL y p=(y.1++[DF p],y.2++[p]):=by unfold wL;rw[if_neg (by rw[hb];simp)]
  rw[hy]at hst;refine go ?_;refine vX wD (DF p) ?_ (ha:=rfl);rw[aeu hb];refine rW (h:=λc=>?_);generalize hv:gv (aA aj).n c y.2.length=v;refine go ?_;intro b44;refine TE (aA aj) (v:=v) (xs:=y.2) p (.slice aq p.length cp) ⟨s6,s6,s6⟩ (next:=λc2=>?_);refine go ?_;have hl2:(y.2++[p]).length=y.2.length+1:=by rw[fu];rfl
  rw[show Value.slice (some ⟨c2,0,some (aA aj).n⟩) (y.2.length+1) (y.2.length+1)=gv (aA aj).n (some c2) (y.2++[p]).length by rw[hl2];rfl];refine oz (λc:az Nat=>[pt b2 (.cells [gv (aA aj).n c (y.2++[p]).length]),ap (aA aj) (gv (aA aj).n c (y.2++[p]).length) (y.2++[p])]) (some c2) (h:=?_);rw[show y.1++[DF p]=(nE z (more.take (i+1))).1 by rw[hst],show y.2++[p]=(nE z (more.take (i+1))).2 by rw[hst]];exact fR
def DJ(f:Nat):Bool:=decide (f=1)||decide (f=2)||decide (8<=f)
def lq(k:aT)(i:Nat):sK:=((k.lists.zipIdx).take i).foldl (λz q=>if DJ q.2=true then nE z (nD k.grid.cells.length q.1)else z) (nE ([],[]) (oW k.grid))
def sM(k:aT):ae (ae Int):=(lq k k.lists.length).2
def asX{g:bY}(h:ig g):zV g:=by
 have h1:=G9 h.make.wi h.make.he;have h2:=h.make.wi;have h3:=h.make.he;have h4:=h.make.len;have h5:=h.len;exact⟨by unfold mK;omega,by unfold mK;omega,s6,s6⟩
variable{lists:ae (ae Int)}
def aex:(nD n lists).length<=lists.length*lists.length:=Ww lists.length
def QA(h:p∈nD n lists):p.length=n:=by
 unfold nD at h;obtain⟨i,_,hi⟩:=List.mem_flatMap.1 h;unfold BG at hi;split at hi
 .obtain⟨b,_,rfl⟩:=cO.1 hi;rw[Qy,kK]
 .cases hi
variable{vh vs vr vc vu gh gc vn vl:ah}{k:aT}
def asY(hK:bD k):
 aY prog (.func 160) [.agg ⟨jE k vh vs vr vc vu gh gc vn vl⟩] [] [] (iO k vh vs vr vc vu gh gc vn vl []) (λc:az Nat=>gv (aA aj).n c (sM k).length) (λc=>[ap (aA aj) (gv (aA aj).n c (sM k).length) (sM k)]) (λ_=>[]) (λ_=>True):=by
 have hg:ig k.grid:=by rw[hK.grid];exact hK.bJ
 have hcl:=hg.len;have hmf:=aep k.grid;refine gB 160 λB w0=>?_;dsimp only[iO];refine gF aj gc k.grid.cells λag cg eg=>?_;subst eg;refine go ?_;intro b1 b2;refine go ?_;refine yB jd (λbm=>?_);refine go ?_;intro b3;refine gC (asK (g:=k.grid) (vh:=gh) (vc:=.slice ag k.grid.cells.length cg) (asX hg) hg) λc0 _=>?_;refine mI ja (A:=ap (aA aj) (gv (aA aj).n c0 (oW k.grid).length) (oW k.grid)) (fs:=[ay (aA aj) (gv (aA aj).n c0 (oW k.grid).length) (oW k.grid)]) (h:=?_);refine gF (aA aj) (gv (aA aj).n c0 (oW k.grid).length) (oW k.grid) λam cm em=>?_;rw[em];refine go ?_;refine kv (aA aj) ?_;rw[show pt b2 (.cells [.slice none 0 0])=pt b2 (.cells [gv (aA aj).n none 0])from rfl,show ap (aA aj) (.slice none 0 0) ([]:ae (ae Int))=ap (aA aj) (gv (aA aj).n none 0) []from rfl];refine oz (λc:az Nat=>[pt b2 (.cells [gv (aA aj).n c (([],[]):sK).2.length]),ap (aA aj) (gv (aA aj).n c (([],[]):sK).2.length) (([],[]):sK).2]) none (hk:=tc) (h:=?_);have hml:∀p∈oW k.grid,p.length<=1000000:=λp hp=>by rw[aeo hp];omega
 rw[show ic jd bm []=ic jd bm (yV (([],[]):sK).1)from rfl];refine fH (Qz (b2:=b2) (b3:=b3) (bm:=bm) (v:=.slice am (oW k.grid).length cm) (e:=0) (z:=([],[])) (more:=oW k.grid) (by show 0+_<=_;omega) hml) (next:=λ_ _=>?_);have h0:nE ([],[]) (oW k.grid)=lq k 0:=rfl;rw[h0];have Lu:k.lists.length<=12:=by
  exact qk
 have hrg:∀r∈k.decl.regions,uT (bO k.decl) r.lists:=λr hr=>(hK.typ.wH r hr).1.2;refine go ?_;have hz0:(lq k 0).2.length<=12+0*4194304:=by
  rw[<- h0];have:=DI (oW k.grid) ([],[]);simp only[BP]at this;omega
 refine dL (λi:Nat=>k.lists.length - i) (λi=>[(19,iV (i:Int))]) (λi=>[ic jd bm (yV (lq k i).1),Fv b2 (lq k i).2.length (lq k i).2]) (λ_=>[]) (λi=>i<=k.lists.length/\∃u,(lq k i).2.length<=12+u*4194304/\(i<=1->u=0)/\(i=2->u<=1)/\(3<=i->i<=8->u<=2)/\(9<=i->u+6<=i)) 0 ⟨bI _,0,hz0,s6,s6,s6,s6⟩ (hk:=tc) (body:=?_);rintro i ⟨hi,u,hu1,hu2,hu3,hu4,hu5⟩;refine aK ?_ ?_<;>intro h1
 rotate_left
 .obtain rfl:i=k.lists.length:=by omega
  refine rW (h:=λc=>?_);rw[show(lq k k.lists.length).2=sM k from rfl];cases c with
  |none=>
   dsimp only[gv];refine go ?_;exact gQ none trivial (hk:=tc)
  |some c=>
   dsimp only[gv];refine go ?_;exact gQ (some c) trivial (hk:=tc)
 refine gX (aA (aA aj)) (xs:=k.lists) λ_ _ L (vL:ah) hL=>?_;have Dt:L∈oC k.decl:=by rw[<- hK.lists];exact aV hL
 have Lm:=KG hK.bJ hrg L Dt;have LK:∀l∈L,kz k.grid.cells.length l/\l.Nodup:=λl hl=>⟨(hK.Lc hL).dJ l hl,Ub hK.bJ hrg L Dt l hl⟩
 have yD:∀l∈L,l.length<=256:=λl hl=>by
  have:=TV k.grid.cells.length l (LK l hl).2 (LK l hl).1;omega
 have hstep:lq k (i+1)=if DJ i=true then nE (lq k i) (nD k.grid.cells.length L)else lq k i:=by
  have hz:k.lists.zipIdx[i]? =some (L,i):=by rw[List.getElem?_zipIdx,hL];simp
  unfold lq;rw[fq hz,vJ];rfl
 have hsw:=aex (n:=k.grid.cells.length) (lists:=L);have hsq:L.length*L.length<=2048*2048:=Nat.mul_le_mul Lm Lm;refine go ?_;by_cases f1:((i:Int)=1)
 .rw[eB f1];exact cI
 rw[dA f1];refine go ?_;by_cases f2:((i:Int)=2)
 .rw[eB f2];exact cI
 rw[dA f2];refine aK ?_ ?_<;>intro f8
 .exact cI
 have hst:lq k (i+1)=lq k i:=by rw[hstep,if_neg (by unfold DJ;simp;omega)]
 refine go ?_;rw[<- hst]at hu1⊢;exact aW (i+1) s6 ⟨s6,u,s6,s6,s6,s6,s6⟩
def asZ(hS:nU k)(hK:bD k):
 aY prog (.func 56) [.agg ⟨jE k vh vs vr vc vu gh gc vn vl⟩] [] [] (iO k vh vs vr vc vu gh gc vn vl []) (λc:az Nat=>.tuple ⟨[gv (aA aj).n c (sM k).length,iV 0]⟩) (λc=>[ap (aA aj) (gv (aA aj).n c (sM k).length) (sM k)]) (λ_=>[]) (λ_=>True):=by
 refine gB 56 λB w0=>?_;dsimp only[iO];refine go ?_;intro b1;refine gC (Ic (k:=k) hS) λb hb=>?_;cases b with
 |false=>exact absurd (hb.2 hK) s7
 |true=>
 refine gC (asY (k:=k) hK) λc _=>?_;refine go ?_;exact gQ c trivial
def as5(hS:nU k)(hK:¬bD k):
 fC prog 56 [.agg ⟨jE k vh vs vr vc vu gh gc vn vl⟩] (iO k vh vs vr vc vu gh gc vn vl []) (λ_:Unit=>.tuple ⟨[.slice none 0 0,iV 180]⟩) (λ_=>True):=by
 refine gB 56 λB w0=>?_;dsimp only[iO];refine go ?_;intro b1;refine gC (Ic (k:=k) hS) λb hb=>?_;cases b with
 |true=>exact absurd (hb.1 rfl) hK
 |false=>
 exact dH
def Wz(hn:n<=4096):aY prog (.func 60) [iV (n:Int)] [] [] [] (λbm:Nat=>.slice (some ⟨bm,0,some 0⟩) n n) (λbm=>[pt bm (.cells ((upTo' n).map iV))]) (λ_=>[]) (λ_=>True):=by
 refine gB 60 λB w0=>?_;refine go ?_;refine qA n ⟨s6,s6,s6⟩ λbm=>?_;rw[Dq];refine go ?_;refine dL (λk=>n - k) (λk:Nat=>[(9,iV (k:Int))]) (λk=>[pt bm (.cells ((iP (upTo' k) n).map iV))]) (λ_=>[]) (λk=>k<=n) 0 (bI _) (hk:=tc) (body:=?_);intro k hk;have hcl:=kK k;refine aK ?_ ?_<;>intro h1
 .refine go ?_;refine jN (b:=bm) (o:=0+k*1) (cs:=(iP (upTo' k) n).map iV) (v:=iV (k:Int)) (cs':=(iP (upTo' (k+1)) n).map iV) (by rw[gq,lU,<- qo,E9 hcl.symm s6,<- EO]) Fc ?_;exact nB
 have hke:k=n:=s6
 subst hke;rw[Fa hcl];refine go ?_;exact gQ bm trivial
def WA:qV (pt bm (.cells ((upTo' n).map iV))) [ay aj (.slice (some ⟨bm,0,some 0⟩) n n) (upTo' n)]:=by
 have:=uJ (b:=bm) (f:=0) (c:=n) (xs:=upTo' n) (hc:=by rw[kK];exact bG _);rw[kK]at this;exact this
structure aey(n:Nat)(L:List (List Int)):Prop where
 few:L.length<=1024
 all:∀g∈L,bM n g
def as6{L:ae (ae Int)}(hn:n<=256)(hl:L.length<2^63)(hls:∀g∈L,g.length<2^63):
 fC prog 167 [iV (n:Int),v] [ay (aA aj) v L] (λe:Int=>iV e) (λe=>(e=0↔aey n L)/\((∀g∈L,bM n g)->e=0\/e=2)):=by
 refine gB 167 λB w0=>?_;refine gF (aA aj) v L λaL cL eL=>?_;subst eL;refine aK ?_ ?_<;>intro h2
 .exfalso;omega
 refine aK ?_ ?_<;>intro h3
 .refine go ?_;exact gQ 2 ⟨⟨(λh=>by cases h),λq=>by have:=q.few;omega⟩,λ_=>.inr rfl⟩
 refine gN L.length 18 (λj=>j<=L.length/\∀g∈L.take j,bM n g) ⟨bI _,s7⟩ ?_;rintro j ⟨hj,hall⟩;refine aK ?_ ?_<;>intro h4
 .refine gX (aA aj) (xs:=L) λ_ _ g (vg:ah) hg=>?_;have hgm:=aV hg;refine gC (VN (xs:=g) (n:=n) hn (hls g hgm)) λb hb=>?_;cases b with
  |false=>
   refine go ?_;exact gQ 110 ⟨⟨(λh=>by cases h),λq=>by have:=hb.2 (q.all g hgm);cases this⟩,λq=>by have:=hb.2 (q g hgm);cases this⟩
  |true=>
  refine go ?_;refine aW (j+1) s6 ⟨s6,λx hx=>?_⟩;rw[fq hg]at hx;rcases fU.1 hx with hx|hx
  .exact hall x hx
  .rw[bR.1 hx];exact hb.1 rfl
 have iH:j=L.length:=s6
 subst iH;rw[dK]at hall;refine go ?_;exact gQ 0 ⟨⟨λ_=>⟨s6,hall⟩,λ_=>rfl⟩,λ_=>.inl rfl⟩
def as7{b1:Nat}(hK:bD k)(x:ae Int)(hx:x.length<2^63):
 ∀v:ah,aY prog (.func 58) [v] [ptr' b1,ptr' b2] [] (ay aj v x::aX b1 0 (jE k vh vs vr vc vu gh gc vn vl)::aX b2 0 [iV (k.decl.symbols.length:Int)]::iO k vh vs vr vc vu gh gc vn vl []) (λb:Bool=>.bool (!b)) (λ_=>[]) (λ_=>[]) (λb=>b=true↔eU k x (upTo' k.decl.symbols.length)):=by
 intro v;have hm:=hK.typ.lim.s1;have hl:=kK k.decl.symbols.length;refine gB 58 λB w0=>?_;dsimp only[iO];refine gF aj v x λax cx ex=>?_;subst ex;refine gC (Wz (n:=k.decl.symbols.length) s6) λbm _=>?_;refine gZ (WA (bm:=bm) (n:=k.decl.symbols.length)) ?_;refine gC (Wi (k:=k) (s:=x) (t:=upTo' k.decl.symbols.length) (sc:=.slice ax x.length cx) (st:=.slice (some ⟨bm,0,some 0⟩) k.decl.symbols.length k.decl.symbols.length) hK hx s6) λb hb=>?_;refine go ?_;exact gQ b hb
def as8{Q:IH->Prop}(h:R Q B w0 (ap (aA aj) (.slice (some ⟨b,0,some 0⟩) 1 1) [p]::kl') F)(hk:aD (pt b (.cells [v])) kl kl':=by exact dG)
 (hf:ay aj v p∈F:=by exact iN):R Q B w0 kl F:=λw s=>by
 have hfp:=s.facts _ hf;have s1:=s.fB hk;obtain⟨S,⟨S1,S2,q1,q2,e⟩,h2,h3⟩:=s1.own;refine h w ⟨s.agree,s.le,s.fF,⟨S,⟨S1,S2,.inr ⟨b,0,0,[v],rfl,.inl rfl,q1.1,q1.2,rfl,λk x hx=>?_⟩,q2,e⟩,h2,h3⟩,s.facts⟩;match k,hx with
 |0,hx=>
  cases hx;refine⟨v,λj u hj=>?_,λf hf=>by rw[bR.1 hf];exact hfp⟩;match j,hj with
  |0,hj=>exact hj
  |j+1,hj=>cases hj
variable{gU l:ae (ae Int)}
def as9{k:Nat}{g:ae Int}(h:qg n gU l k)(hg:g∈gU)(hq:l[k]? =some q)(hno:dF g q∉l):qg n gU (l++[dF g q]) k where
 gp:=h.gp
 nd:=by
  rw[j5];exact⟨h.nd,s7,λa ha b hb e=>hno (by rw[<- bR.1 hb,<- e];exact ha)⟩
 first:=by
  have:=(bz.1 h.first).1;rw[ql this];exact h.first
 Df i p hp:=by
  have hk:=(bz.1 hq).1;by_cases hi:i<l.length
  .rw[ql hi]at hp;rcases h.Df i p hp with e|⟨j,g',q',hj,hg',hq',e⟩
   .exact .inl e
   .exact .inr ⟨j,g',q',hj,hg',by rw[ql s6];exact hq',e⟩
  .right;rw[sN s6]at hp;have hp0:i=l.length:=by
    have:=(bz.1 hp).1;simp at this;omega
   subst hp0;rw[um]at hp;cases hp;exact⟨k,g,q,hk,hg,by rw[ql hk];exact hq,rfl⟩
 done i q' hi hq' g' hg':=by
  have hk:=(bz.1 hq).1;rw[ql s6]at hq';exact ul _ (h.done i q' hi hq' g' hg')
def ata{k:Nat}(h:qg n gU l k)(hq:l[k]? =some q)(hall:∀g∈gU,dF g q∈l):qg n gU l (k+1) where
 gp:=h.gp
 nd:=h.nd
 first:=h.first
 Df:=h.Df
 done i q' hi hq' g hg:=by
  by_cases e:i=k
  .subst e;rw[hq]at hq';cases hq';exact hall g hg
  .exact h.done i q' s6 hq' g hg
def WB{k:Nat}(h:qg n gU l k):∀q∈l,bM n q:=λq hq=>by
 obtain⟨i,hi⟩:=gT hq;exact h.perm i q hi
def atb(h:∀g∈gU,bM n g):qg n gU [upTo' n] 0 where
 gp:=h
 nd:=s7
 first:=rfl
 Df i p hp:=by
  left;have:=(bz.1 hp).1;simp at this;omega
 done i q hi:=absurd hi (Cc _)
variable{P:Program}{ty:aM}
def atc(h:P.underlying ty=some (.int .u8))(a b:Int)(d:Nat):dX P (Op.equalIn (d+1) ty (.int .u8 a) (.int .u8 b))=some (decide (a=b)):=by
 unfold Op.equalIn;rw[gu,qz h];simp only[lS,if_true];rfl
def WC(h:P.underlying ty=some (.int .u8)){v:ah}{xs:Array ah}{o:Nat}(hx:xs[o]? =some v):dX P (part ty xs o)=some v:=by
 have hag:dX P (isAgg ty)=some false:=by
  unfold isAgg;rw[gu,qz h];rfl
 unfold part;rw[gu,hag];show dX P (match xs[o]? with|some v=>pure v|none=>stuck "part: no such cell")=_;rw[hx];rfl
variable{e:aM}
def aez(hs:P.info? e|>.map (·.size)|>(·=some 1)):dX P (sizeOf e)=some 1:=by
 exact gE
def atd{t:aM}{ys:ae Int}(hu:P.underlying t=some (.array n e))(he:P.underlying e=some (.int .u8))(hs:P.info? e|>.map (·.size)|>(·=some 1))(hx:xs.length=n)(hy:ys.length=n):
 dX P (Op.equalIn (d+2) t (.agg ⟨xs.map (.int .u8)⟩) (.agg ⟨ys.map (.int .u8)⟩))=some (decide (xs=ys)):=by
 have hsz:=aez hs;unfold Op.equalIn;rw[gu,qz hu];simp only[lS];rw[gu,hsz];simp only[lS,lU];rw[Std.Legacy.Range.forIn_eq_forIn_range'];simp only[Std.Legacy.Range.size,BQ,Mf,Nat.div_one];have key:∀(m i:Nat),i+m=n->dX P (do
  let Kb <- forIn (List.range' i m 1) ((none,()):az Bool×Unit) λi Kb=>
   (do let a <- part e ⟨xs.map (.int .u8)⟩ i
       let b <- part e ⟨ys.map (.int .u8)⟩ i
       let r <- Op.equalIn (d+1) e a b
       if(!r)=true then pure (ForInStep.done (some false,()))else pure (ForInStep.yield (none,())))
  match Kb.fst with
  |some r=>pure r
  |none=>pure true)=some (decide (xs.drop i=ys.drop i)):=by
  intro m;induction m with
  |zero=>
   intro i hi;rw[BU s6,BU s6];rfl
  |succ m ih=>
   intro i hi;have hix:i<xs.length:=s6
   have Kc:i<ys.length:=s6
   rw[List.range'_succ,List.forIn_cons];simp only[gu,Ka];rw[WC he (xs:=⟨xs.map (.int .u8)⟩) (o:=i) (v:=.int .u8 xs[i]) (by simp[hix]),lS,WC he (xs:=⟨ys.map (.int .u8)⟩) (o:=i) (v:=.int .u8 ys[i]) (by simp[Kc]),lS,atc he,lS];rw[mX hix,mX Kc];have ih:=ih (i+1) s6;simp only[gu,Ka]at ih;by_cases hxy:xs[i]=ys[i]
   .rw[eB hxy];simp only[Bool.not_true,DR,if_false];show(dX P _).bind _=_;rw[show decide (xs[i]::xs.drop (i+1)=ys[i]::ys.drop (i+1))=decide (xs.drop (i+1)=ys.drop (i+1))from nZ.2 (by rw[List.cons.injEq];exact⟨λh=>h.2,λh=>⟨hxy,h⟩⟩)];exact ih
   .rw[dA hxy];simp only[Bool.not_false,if_true];rw[show decide (xs[i]::xs.drop (i+1)=ys[i]::ys.drop (i+1))=false from dA (λh=>hxy (List.cons.inj h).1)];rfl
 have:=key n 0 s6;rw[za,za]at this;refine Eq.trans ?_ this;simp only[gu];congr 1;funext s
 cases s.fst<;>rfl
abbrev Key:={t:ae Int//t.length=256}
def BH(t:Key):ah:=.agg ⟨t.1.map (.int .u8)⟩
def aeA:∀zs:ae Int,iY (zs.map (Value.int .u8))=true
 |[]=>rfl
 |x::zs=>by rw[iX];simp[iY,dQ,Ideal.cellV,aeA zs]
def ate{kt:aM}(hu:P.underlying kt=some (.array 256 e))(he:P.underlying e=some (.int .u8))(hs:P.info? e|>.map (·.size)|>(·=some 1)):rY P kt BH where
 EF a:=by
  refine Tf (by unfold BH;simp only[dQ];exact aeA a.1) λb=>?_;show dX P (Instr.checkKey b (9999+1) kt (.agg ⟨a.1.map (.int .u8)⟩))=_;unfold Instr.checkKey;rw[gu,qz hu];simp only[lS];rw[Std.Legacy.Range.forIn_eq_forIn_range'];simp only[Std.Legacy.Range.size,BQ,Mf,Nat.div_one];have hsz:=aez hs;have key:∀(m i:Nat),i+m=256->dX P (forIn (List.range' i m) PUnit.unit λi _=>do
   let n <- sizeOf e
   let v <- part e ⟨a.1.map (Value.int .u8)⟩ (i*n)
   Instr.checkKey b 9999 e v
   pure (ForInStep.yield PUnit.unit))=some PUnit.unit:=by
   intro m;induction m with
   |zero=>intro i _;rfl
   |succ m ih=>
    intro i hi;have hix:i<a.1.length:=by rw[a.2];omega
    rw[List.range'_succ,List.forIn_cons];rw[gu,gu,hsz,lS,gu,lU,WC he (xs:=⟨a.1.map (.int .u8)⟩) (o:=i) (v:=.int .u8 a.1[i]) (by simp[hix]),lS,gu];have hc:dX P (Instr.checkKey b (9998+1) e (.int .u8 a.1[i]))=some ():=by
     unfold Instr.checkKey;rw[gu,qz he];rfl
    rw[hc];exact ih (i+1) s6
  rw[gu,key 256 0 s6];rfl
 find a aC es h:=Tw hu (λa b=>rfl) (λa b=>by
  have:=atd (d:=9998) (xs:=a.1) (ys:=b.1) hu he hs a.2 b.2;rw[show decide (a=b)=decide (a.1=b.1)from nZ.2 ⟨λh=>by rw[h],Subtype.ext⟩];exact this) a aC es h
 same a:=by
  show((⟨a.1.map (Value.int .u8)⟩:Array ah).size==(⟨a.1.map (Value.int .u8)⟩:Array ah).size&&(List.zip (a.1.map (Value.int .u8)) (a.1.map (Value.int .u8))).all λ(x,y)=>Instr.sameBits 9999 x y)=true;rw[gV];refine⟨s7,?_⟩;rw[jU];rintro⟨x,y⟩ hxy;have hz:∀(l:ae ah) (x y:ah),(x,y)∈List.zip l l->x=y:=by
   intro l;induction l with
   |nil=>intro x y h;cases h
   |cons c l ih=>
    intro x y h;rw[Mm]at h;rcases dm.1 h with h|h
    .cases h;rfl
    .exact ih x y h
  have e:=hz _ x y hxy;subst e;obtain⟨i,_,rfl⟩:=cO.1 (List.of_mem_zip hxy).1;simp[Instr.sameBits]
def atf(p:ae Int)(h:p.length<=256):(iP (p.map λx=>IntKind.u8.wrap x) 256).length=256:=yP (by rw[bi];exact h)
def mW(p:ae Int):Key:=if h:p.length<=256 then⟨iP (p.map λx=>IntKind.u8.wrap x) 256,atf p h⟩else⟨List.replicate 256 0,zg⟩
def atg(h:p.length<=256):BH (mW p)=.agg ⟨(iP (p.map λx=>IntKind.u8.wrap x) 256).map (.int .u8)⟩:=by unfold mW BH;rw[dif_pos h]
def WE:rY prog 220 BH:=ate (e:=5) s8 s8 s8
def aeB(hn:n<=256)(hp:kz n p)(hq:kz n q)(hl:p.length=n)(hm:q.length=n)(h:mW p=mW q):p=q:=by
 have e:=congrArg Subtype.val h;unfold mW at e;rw[dif_pos s6,dif_pos s6]at e;dsimp only at e;unfold iP at e;have e2:=List.append_inj_left e (by rw[bi,bi,hl,hm]);refine List.ext_getElem s6 λi h1 h2=>?_;have e3:=congrArg (·[i]?) e2;simp only[eF,bN h1,bN h2,oJ,bC]at e3;have b1:=hp _ (rG h1);have b2:=hq _ (rG h2);have w:∀x:Int,0<=x->x<256->IntKind.u8.wrap x=x:=λx h0 h1=>by
  show x%256=x;omega
 rw[w _ s6 s6,w _ s6 s6]at e3;exact e3
def aeC{α:Type}:∀l:ae α,jV l 0 l=some l
 |[]=>rfl
 |x::l=>by rw[Q6,aeC l];rfl
def WG(hl:p.length<=256):dO prog 168 [v] [ay aj v p] (BH (mW p)):=by
 rw[atg hl];refine gB 168 λB w0=>?_;refine gF aj v p λal cl el=>?_;subst el;refine go ?_;intro b2;refine dL (λj:Nat=>p.length - j) (λj=>[(7,iV (j:Int))]) (λj=>[pt b2 (.cells ((iP ((p.take j).map λx=>IntKind.u8.wrap x) 256).map (.int .u8)))]) (λ_=>[]) (λj=>j<=p.length) 0 (bI _) (hk:=Cd) (body:=?_);intro j hj;have hjl:((p.take j).map λx=>IntKind.u8.wrap x).length=j:=us
 refine aK ?_ ?_<;>intro h2
 .refine go ?_;intro _ _ x hx;refine go ?_;refine(dx rfl rfl (xA (k:=.u8) (m:=IntKind.u8.wrap x) (by kernel_rfl:prog.underlying 3=some (.int .i64)) s8 rfl rfl)).h ?_;refine go ?_;refine jN (b:=b2) (o:=0+j*1) (cs:=(iP ((p.take j).map λx=>IntKind.u8.wrap x) 256).map (.int .u8)) (v:=.int .u8 (IntKind.u8.wrap x)) (cs':=(iP ((p.take (j+1)).map λx=>IntKind.u8.wrap x) 256).map (.int .u8)) FA Fc ?_;exact dg
 obtain rfl:j=p.length:=s6
 rw[dK]at hjl⊢;refine go ?_;generalize hcs:(iP (p.map λx=>IntKind.u8.wrap x) 256).map (Value.int .u8)=cs;have hcl:cs.length=256:=by rw[<- hcs,bi,yP s6]
 have hrd:jR (kD cs 0) 256=some cs:=by rw[qw,qM,za,if_pos s6,<- hcl,dK]
 refine(SE (cs:=cs) (c:=cs) rfl rfl rfl .here hrd).h ?_;refine(SG (cs:=cs) (vs:=cs) (c:=cs) rfl rfl rfl (by rw[xX,hcl];rfl) .here (aeC cs)).h ?_;refine go ?_;exact ou () (hr:=.pX rfl .here hrd .nil) (hv:=rfl) (hp:=trivial)
open Go.Ideal Kd Canon Go.Shelf Go.Sort
def ath:SWO (ltOf (eD dB)):=by
 have h:=vU uH;have hz:=h.zero;have hn:=h.neg;have ht:=h.trans;refine⟨λx=>?_,λx y z h1 h2=>?_,λx y z h1 h2=>?_⟩
 .have:=(hz x x).2 rfl;exact dA s6
 .exact eB (ht x y z (jI h1) (jI h2))
 .have h1:¬eD dB x y<0:=wS h1;have h2:¬eD dB y z<0:=wS h2;refine dA λh3=>?_;by_cases e1:eD dB x y=0
  .rw[(hz x y).1 e1]at h3;exact h2 h3
  by_cases e2:eD dB y z=0
  .rw[<- (hz y z).1 e2]at h3;exact h1 h3
  exact lB
def ati:Kj prog 170 1 zN:=akt λα _ enc cf g cb blk off cap d w h1 hO eg hcmp hH hblk hsz=>Any.slices_SortFunc Tryz.laysT6 enc h1 cf hO g cb blk off cap d w eg hcmp hH hblk hsz
def atj:Kk prog 170:=λp cap fv w=>AnyF.slices_SortFunc_none {Tryz.laysT6 with} p cap fv w
def aeD(f:gy)(h2:(prog.funcs[f]?).map (λf=>f.name== "runtime.NumGoroutine")=some false)(h3:(prog.funcs[f]?).map (λf=>f.body.isSome)=some true):∃fn body,prog.funcs[f]? =some fn/\fn.body=some body/\fn.name≠ "runtime.NumGoroutine" :=by
 cases hfn:prog.funcs[f]? with
 |none=>rw[hfn]at h2;cases h2
 |some fn=>
  rw[hfn]at h2 h3;have h2:(fn.name== "runtime.NumGoroutine")=false:=Option.some.inj h2;have h3:fn.body.isSome=true:=Option.some.inj h3;obtain⟨body,hb⟩:=Mc.1 h3;exact⟨fn,body,rfl,hb,wk⟩
def atl{a:az Addr}{xs:ae (ae Int)}(hm:m=xs.length)(hl:xs.length<4611686018427387904)(hx:∀x∈xs,x.length<=1000000):
 aY prog (.func 170) [.slice a m m,.func (.func 171) ⟨[]⟩ ⟨[]⟩] [] [ap (aA aj) (.slice a m m) xs] [] (λ_:ae (ae Int)=>.tuple ⟨[]⟩) (λys=>[ap (aA aj) (.slice a m m) ys]) (λ_=>[]) (λys=>ys.Perm xs/\ys.Pairwise λx y=>¬eD dB y x<0):=by
 subst hm;obtain⟨fn,body,h1,h2,h3⟩:=aeD 170 s8 s8;obtain⟨gn,GU,g1,g2,g3⟩:=aeD 171 s8 s8;exact aah (E:=aA aj) (xs:=xs) (F:=[]) (cap:=[]) Ws aku ati atj h1 h2 h3 g1 g2 g3 rfl tg ath (λx hxm y hym va vb=>Vz (hx x hxm) (hx y hym)) hl
def BI(l:ae (ae Int)):ae (Key×ah):=l.map λp=>(mW p,.bool true)
def aeE{n:Nat}{p:ae Int}(hn:n<=256)(hp:bM n p):∀{l:ae (ae Int)},(∀q∈l,bM n q)->kw false (.bool false) (mW p) (BI l)=.bool (decide (p∈l))
 |[],_=>rfl
 |c::l,h=>by
  have ih:=aeE hn hp (l:=l) (λq hq=>h q (fP _ hq));have hc:=h c (eX ..);unfold kw at ih⊢;have e:dM (mW p) (BI (c::l))=if mW p=mW c then some (Value.bool true)else dM (mW p) (BI l):=rfl
  rw[e];by_cases hh:mW p=mW c
  .have:=aeB hn hp.dJ hc.dJ hp.len hc.len hh;rw[if_pos hh,eB (by rw[this];exact eX ..)];rfl
  .rw[if_neg hh];refine ih.trans ?_;congr 1;exact nZ.2 ⟨fP _,λe=>(dm.1 e).elim (λe=>absurd (by rw[e]) hh) id⟩
def aeF{n:Nat}{p:ae Int}(hn:n<=256)(hp:bM n p):∀{l:ae (ae Int)},(∀q∈l,bM n q)->p∉l->upd (mW p) (.bool true) (BI l)=BI (l++[p])
 |[],_,_=>rfl
 |c::l,h,hno=>by
  have hc:=h c (eX ..);have h1:mW p≠mW c:=λe=>hno (by rw[aeB hn hp.dJ hc.dJ hp.len hc.len e];exact eX ..);show(if mW p=mW c then _ else(mW c,Value.bool true)::upd (mW p) (.bool true) (BI l))=_;rw[if_neg h1,aeF hn hp (λq hq=>h q (fP _ hq)) (λe=>hno (fP _ e))];rfl
structure atm(n:Nat)(gU:List (List Int))(G:List (List Int))(e:Int):Prop where
 err:e≠0->G=[]/\((∀g∈gU,bM n g)->e=2)
 ok:e=0->∃l,qg n gU l l.length/\G.Perm l/\l.length<=4096/\G.Pairwise λx y=>¬eD dB y x<0
structure atn where
 v:Value
 G:List (List Int)
 e:Int
def ato(hn:n<=256)(hl:gU.length<2^63)(hls:∀g∈gU,g.length<2^63):
 aY prog (.func 61) [iV (n:Int),v] [] [] [ay (aA aj) v gU] (λy:atn=>.tuple ⟨[y.v,iV y.e]⟩) (λy=>[ap (aA aj) y.v y.G]) (λ_=>[]) (λy=>atm n gU y.G y.e):=by
 refine gB 61 λB w0=>?_;refine gF (aA aj) v gU λag cg eg=>?_;subst eg;refine gC (as6 (n:=n) (v:=.slice ag gU.length cg) (L:=gU) hn hl hls) λe he=>?_;refine aK ?_ ?_<;>intro h1
 .refine go ?_;refine kv (aA aj) ?_;exact gQ ⟨.slice none 0 0,[],e⟩ ⟨λ_=>⟨rfl,λh=>(he.2 h).resolve_left h1⟩,λh=>absurd h h1⟩ (hk:=Cd)
 have hz:e=0:=j6.1 h1;subst hz;have hG:aey n gU:=he.1.1 rfl;clear he;refine go ?_;refine qA n ⟨s6,s6,s6⟩ λbm=>?_;rw[Dq];refine go ?_;refine dL (λj:Nat=>n - j) (λj=>[(23,iV (j:Int))]) (λj=>[pt bm (.cells ((iP (upTo' j) n).map iV))]) (λ_=>[]) (λj=>j<=n) 0 (bI _) (hk:=tc) (body:=?_);intro j hj;have pO:=kK j;refine aK ?_ ?_<;>intro h5
 .refine go ?_;refine jN (b:=bm) (o:=0+j*1) (cs:=(iP (upTo' j) n).map iV) (v:=iV (j:Int)) (cs':=(iP (upTo' (j+1)) n).map iV) Ft Fc ?_;exact dg
 obtain rfl:j=n:=s6
 rw[Fa pO];refine gZ (WA (bm:=bm) (n:=j)) ?_;refine go ?_;intro b32;refine go ?_;refine yB BH (λbs=>?_);refine gC (WG (v:=.slice (some ⟨bm,0,some 0⟩) j j) (p:=upTo' j) s6) λ_ _=>?_;refine vX WE (mW (upTo' j)) ?_ (ha:=rfl);rw[show upd (mW (upTo' j)) (Value.bool true) []=BI [upTo' j]from rfl];refine as8 (b:=b32) (v:=.slice (some ⟨bm,0,some 0⟩) j j) (p:=upTo' j) ?_;refine go ?_;refine dL (λy:Nat×ah×ae (ae Int)=>4097 - y.1) (λy=>[(9,iV (y.1:Int)),(4,y.2.1)]) (λy=>[ap (aA aj) y.2.1 y.2.2,ic BH bs (BI y.2.2)]) (λ_=>[]) (λy=>qg j gU y.2.2 y.1/\y.1<=y.2.2.length/\y.2.2.length<=4096) (0,.slice (some ⟨b32,0,some 0⟩) 1 1,[upTo' j]) ⟨atb hG.all,bI _,by show 1<=4096;omega⟩ (hk:=tc) (body:=?_);rintro⟨at_,v4,l⟩ ⟨hC,hat,hlm⟩;dsimp only at hC hat hlm⊢;refine OM (E:=aA aj) (v:=v4) (xs:=l) λa4 e4 hnil=>?_;subst e4;refine aK ?_ ?_<;>intro h2
 rotate_left
 .obtain rfl:at_=l.length:=by omega
  refine gC (atl (a:=a4) (m:=l.length) (xs:=l) rfl s6 (λx hx=>by have:=(WB hC x hx).len;omega)) λys hys=>?_;refine go ?_;exact gQ ⟨.slice a4 l.length l.length,ys,0⟩ ⟨λh=>absurd rfl h,λ_=>⟨l,hC,hys.1,hlm,hys.2⟩⟩
 have hq:l[at_]? =some (l[at_]'(s6)):=bN _;generalize hqe:l[at_]'(s6)=q at hq;have WH:=hC.perm at_ q hq;refine go ?_;refine dL (λy:Nat×ah×ae (ae Int)=>gU.length - y.1) (λy=>[(45,iV (y.1:Int)),(4,y.2.1)]) (λy=>[ap (aA aj) y.2.1 y.2.2,ic BH bs (BI y.2.2)]) (λ_=>[]) (λy=>y.1<=gU.length/\qg j gU y.2.2 at_/\y.2.2[at_]? =some q/\y.2.2.length<=4096/\∀g∈gU.take y.1,dF g q∈y.2.2) (0,.slice a4 l.length l.length,l) ⟨bI _,hC,hq,hlm,λg hg=>by cases hg⟩ (hk:=tc) (body:=?_);clear hC hat hlm hnil h2 hq hqe;rintro⟨i,v4,l⟩ ⟨hi,hC,hq,hlm,hall⟩;dsimp only at hi hC hq hlm hall⊢;have hat:=(bz.1 hq).1;refine aK ?_ ?_<;>intro h2
 rotate_left
 .obtain rfl:i=gU.length:=by omega
  rw[dK]at hall;refine go ?_;exact aW (at_+1,v4,l) (by show 4097 - (at_+1)<4097 - at_;omega) ⟨ata hC hq hall,by show at_+1<=l.length;omega,hlm⟩
 refine OM (E:=aA aj) (v:=v4) (xs:=l) λa5 e5 hnil=>?_;subst e5;refine gX (aA aj) (xs:=gU) λ_ _ g (vg:ah) hg=>?_;have hgm:=aV hg;have hgp:=hG.all g hgm;refine go ?_;refine Qw at_ q hq λ_ _ vq=>?_;refine gC (apY (a:=g) (b:=q) (n:=j) hgp.len WH.dJ (by have:=WH.len;omega)) λbp _=>?_;have hcl:(dF g q).length=q.length:=by unfold dF;rw[bi]
 have zX:bM j (dF g q):=hgp.comp WH;refine gZ (uJ (b:=bp) (f:=0) (c:=q.length) (xs:=dF g q) (hc:=s6)) ?_;rw[hcl];generalize hpe:dF g q=p at *;refine gC (WG (v:=.slice (some ⟨bp,0,some 0⟩) q.length q.length) (p:=p) (by have:=zX.len;omega)) λ_ _=>?_;refine go ?_;refine EI WE (mW p) ?_ (ha:=rfl);rw[aeE hn zX (WB hC)];by_cases hm:p∈l
 .rw[eB hm];refine go ?_;exact aW (i+1,.slice a5 l.length l.length,l) E6 ⟨by show i+1<=_;omega,hC,hq,hlm,λg' hg'=>by
   rw[fq hg]at hg';rcases fU.1 hg' with h|h
   .exact hall g' h
   .rw[bR.1 h,hpe];exact hm⟩
 rw[dA hm];refine aK ?_ ?_<;>intro h3
 .refine go ?_;refine kv (aA aj) ?_;exact gQ ⟨.slice none 0 0,[],2⟩ ⟨λ_=>⟨rfl,λ_=>rfl⟩,λh=>by cases h⟩ (hk:=Cd)
 refine gC (WG (v:=.slice (some ⟨bp,0,some 0⟩) q.length q.length) (p:=p) (by have:=zX.len;omega)) λ_ _=>?_;refine go ?_;refine vX WE (mW p) ?_ (ha:=rfl);rw[aeF hn zX (WB hC) hm];refine go ?_;intro b67;refine jy (aA aj) (v:=.slice a5 l.length l.length) (xs:=l) p (.slice (some ⟨bp,0,some 0⟩) q.length q.length) (cs:=[.slice (some ⟨bp,0,some 0⟩) q.length q.length]) s6 (next:=λv6=>?_);refine go ?_;have hsn:=as9 hC hgm hq (by rw[hpe];exact hm);rw[hpe]at hsn;exact aW (i+1,.slice v6 (l.length+1) (l.length+1),l++[p]) E6 ⟨by show i+1<=_;omega,hsn,by show(l++[p])[at_]? =some q;rw[ql hat];exact hq,by show(l++[p]).length<=4096;rw[fu,DZ];omega,λg' hg'=>by
  show dF g' q∈l++[p]
  rw[fq hg]at hg';rcases fU.1 hg' with h|h
  .exact ul _ (hall g' h)
  .rw[bR.1 h,hpe];exact wQ _ (bR.2 rfl)⟩
