/- Part. -/
import Derived.Test.YtoilpafpgndilaaGreatLibOJ
import Derived.Test.YtoilpafpgndilaaGreatShelfT
set_option linter.all false
set_option maxRecDepth 10000
set_option maxHeartbeats 4000000
namespace Go.Proofs.YtoilpafpgndilaaGreat
open Tryz (prog)
open Go.Ideal Kd Canon
def ac0:∀xs:ae Int,DT (xs.map (.int .u8))=some (xs.map λx=>UInt8.ofNat x.toNat)\/∃x∈xs,x<0
 |[]=>.inl rfl
 |x::xs=>by
  rcases ac0 xs with h|⟨y,hy,h⟩
  .by_cases hx:x<0
   .exact .inr ⟨x,dD ..,hx⟩
   .left;obtain⟨n,rfl⟩:=gV (by omega:0<=x);rw[fA];show(match (Value.int .u8 (n:Int)),DT (xs.map (.int .u8))with| .int .u8 k,some r=>some (UInt8.ofNat k.toNat::r)|_,_=>none)=_;rw[h];rfl
  .exact .inr ⟨y,dB _ hy,h⟩
variable{n d b m:Nat}{xs:ae Int}{B:ae Nat}{w0:Wd}{kl kl':ae OA}{F:ae aI}
def apT{K:KO}{ds:ae Tmp}{rest:ae bN}{l:qr}{D:ae Deferred}{pm:ak FrameMode}{ro:ak Nat}{g:ak (Tmp×Bool)}{x:ay}(hm:xs.length=m)(hx0:∀x∈xs,0<=x)(next:R (λh=>aM prog ds rest (act n ((d,.string ⟨⟨xs.map λx=>UInt8.ofNat x.toNat⟩⟩)::l) D pm ro) h K) B w0 kl F)
 (hx:ev l x=.slice (some ⟨b,0,some 0⟩) m m:=by rfl) (hk:aB (pt b (.cells (xs.map (.int .u8)))) kl kl':=by repeat (first|exact aB.here|apply aB.there)) (hn:Nat.blt d n=true:=by rfl) (hg:bO l g=true:=by rfl):
 R (λh=>aM prog ds (⟨⟨some d,g,.H7 x⟩,[]⟩::rest) (act n l D pm ro) h K) B w0 kl F:=
 (ahL hn hg (v:=.string ⟨⟨xs.map λx=>UInt8.ofNat x.toNat⟩⟩) λw s=>by
   have hr:w.h.jd b 0 m=some (xs.map (.int .u8)):=by
    rw[(s.at_ hk).cX.jd,qp,qJ,yX,if_pos tU,<- hm];congr 1;exact xP (by rw[aR];exact aZ _)
   have hb:DT (xs.map (.int .u8))=some (xs.map λx=>UInt8.ofNat x.toNat):=by
    rcases ac0 xs with h|⟨y,hy,h⟩
    .exact h
    .have:=hx0 y hy;omega
   simp only[aK.run,hx,hr,hb]).h next
def Dp(p:ae Int):ByteArray:=⟨⟨(p.map λx=>IntKind.u8.wrap x).map λx=>UInt8.ofNat x.toNat⟩⟩
def yR(ks:ae ByteArray):ae (ByteArray×ah):=ks.map λk=>(k,.bool true)
def Hg(k:ByteArray)(ks:ae ByteArray):Bool:=ks.any λc=>decide (k=c)
def ac1{k:ByteArray}:∀{ks:ae ByteArray},Hg k ks=false->upd k (.bool true) (yR ks)=yR (ks++[k])
 |[],_=>rfl
 |c::ks,h=>by
  unfold Hg at h;rw[List.any_cons,VP]at h;have h1:k≠c:=uZ h.1;show(if k=c then _ else(c,Value.bool true)::upd k (.bool true) (yR ks))=_;rw[if_neg h1,ac1 h.2];rfl
def ac2{k:ByteArray}:∀{ks:ae ByteArray},jJ false (.bool false) k (yR ks)=.bool (Hg k ks)
 |[]=>rfl
 |c::ks=>by
  have ih:=ac2 (k:=k) (ks:=ks);unfold jJ at ih⊢;have e:dF k (yR (c::ks))=if k=c then some (Value.bool true)else dF k (yR ks):=rfl
  rw[e];unfold Hg at ih⊢;rw[List.any_cons];by_cases h:k=c
  .rw[if_pos h,eT h,Bool.true_or];rfl
  .rw[if_neg h,bY h,Bool.false_or];exact ih
abbrev su:=ae ByteArray×ae (ae Int)
def vZ(z:su)(p:ae Int):su:=if Hg (Dp p) z.1=true then z else(z.1++[Dp p],z.2++[p])
def ny(z:su)(more:ae (ae Int)):su:=more.foldl vZ z
variable{p:ae Int}{z:su}
def apU:(vZ z p).2.length<=z.2.length+1:=by
 unfold vZ;split
 .omega
 .rw[eF,u7];exact aZ _
def Dq:∀(more:ae (ae Int)) (z:su),(ny z more).2.length<=z.2.length+more.length
 |[],z=>aZ _
 |p::more,z=>by
  have h1:=Dq more (vZ z p);have h2:=apU (z:=z) (p:=p);show(ny (vZ z p) more).2.length<=_;rw[nW];omega
variable{q:ae Int}
def apV(h:q∈(vZ z p).2):q∈z.2\/q=p:=by
 unfold vZ at h;split at h
 .exact .inl h
 .rcases fq.1 h with h|h
  .exact .inl h
  .exact .inr (bA.1 h)
def UZ{q:ae Int}:∀(more:ae (ae Int)) (z:su),q∈(ny z more).2->q∈z.2\/q∈more
 |[],z,h=>.inl h
 |p::more,z,h=>by
  rcases UZ more (vZ z p) h with h|h
  .rcases apV h with h|h
   .exact .inl h
   .exact .inr (by rw[h];exact dD ..)
  .exact .inr (dB _ h)
def apW(x:Int):0<=IntKind.u8.wrap x/\IntKind.u8.wrap x<256:=by
 show 0<=x%256/\x%256<256;omega
variable{b2 bm:Nat}{v:ah}
def OV{b3:Nat}{e:Int}{more:ae (ae Int)}(hm:z.2.length+more.length<=40000000)(hl:∀p∈more,p.length<=1000000):
 aX prog (.func 152) [v,iV e] [ptr' b3,ptr' b2] [pt b3 (.cells [.map (some bm)]),fV iZ bm (yR z.1),EY b2 z.2.length z.2] [aj (az ai) v more] (λ_:Unit=>.tuple ⟨[]⟩)
  (λ_=>[pt b3 (.cells [.map (some bm)]),fV iZ bm (yR (ny z more).1),EY b2 (ny z more).2.length (ny z more).2]) (λ_=>[]) (λ_=>True):=by
 refine gB 152 λB w0=>?_;refine gF (az ai) v more λal cl el=>?_;subst el;refine go ?_;refine dV (λi:Nat=>more.length - i) (λi=>[(14,iV (i:Int))]) (λi=>[fV iZ bm (yR (ny z (more.take i)).1),EY b2 (ny z (more.take i)).2.length (ny z (more.take i)).2]) (λ_=>[]) (λi=>i<=more.length) 0 (bM _) (hk:=s9) (body:=?_);intro i hi;refine aO ?_ ?_<;>intro h1
 rotate_left
 .obtain rfl:i=more.length:=by omega
  rw[fu];exact eH
 refine gX (az ai) (xs:=more) λ_ _ p (vp:ah) hp=>?_;have hpl:=hl p (aT hp);refine gF ai vp p λaq cp ep=>?_;subst ep;have hz:=Dq (more.take i) z;rw[fU]at hz;have hst:ny z (more.take (i+1))=vZ (ny z (more.take i)) p:=by unfold ny;rw[fF hp,wD];rfl
 generalize hze:ny z (more.take i)=y at *;refine go ?_;refine sW p.length ⟨s6,s6,s6⟩ λbb=>?_;have hzb:zeros [Value.int .u8 0] p.length=((gM ((p.take 0).map λx=>IntKind.u8.wrap x) p.length).map (.int .u8)):=by
  show _=(gM [] p.length).map (Value.int .u8);rw[ab0];induction p.length with
  |zero=>rfl
  |succ n ih=>rw[xO,fA,<- ih];rfl
 rw[hzb];refine go ?_;refine dV (λj:Nat=>p.length - j) (λj=>[(23,iV (j:Int))]) (λj=>[pt bb (.cells ((gM ((p.take j).map λx=>IntKind.u8.wrap x) p.length).map (.int .u8)))]) (λ_=>[]) (λj=>j<=p.length) 0 (bM _) (hk:=s9) (body:=?_);intro j hj;have hjl:((p.take j).map λx=>IntKind.u8.wrap x).length=j:=z6
 refine aO ?_ ?_<;>intro h2
 .refine go ?_;intro _ _ x hx;refine go ?_;refine(cZ rfl rfl (zz (k:=.u8) (m:=IntKind.u8.wrap x) (by kernel_rfl:prog.underlying 3=some (.int .i64)) s8 rfl rfl)).h ?_;refine go ?_;refine jN (b:=bb) (o:=0+j*1) (cs:=(gM ((p.take j).map λx=>IntKind.u8.wrap x) p.length).map (.int .u8)) (v:=.int .u8 (IntKind.u8.wrap x)) (cs':=(gM ((p.take (j+1)).map λx=>IntKind.u8.wrap x) p.length).map (.int .u8)) Hx GP ?_;exact eN
 obtain rfl:j=p.length:=s6
 rw[fu]at hjl⊢;rw[BA hjl];refine go ?_;refine apT (b:=bb) (m:=p.length) (xs:=p.map λx=>IntKind.u8.wrap x) hjl (λx hx=>by obtain⟨u,_,rfl⟩:=bS.1 hx;exact(apW u).1) ?_;rw[show(⟨⟨(p.map λx=>IntKind.u8.wrap x).map λx=>UInt8.ofNat x.toNat⟩⟩:ByteArray)=Dp p from rfl];refine go ?_;refine Ex vT (Dp p) ?_ (ha:=rfl);rw[ac2];cases hb:Hg (Dp p) y.1 with
 |true=>
  have hy:vZ y p=y:=by unfold vZ;rw[if_pos hb]
  rw[hy]at hst;refine go ?_;rw[<- hst];exact eJ
 |false=>
  have hy:vZ y p=(y.1++[Dp p],y.2++[p]):=by unfold vZ;rw[if_neg (by rw[hb];simp)]
  rw[hy]at hst;refine go ?_;refine vJ vT (Dp p) ?_ (ha:=rfl);rw[ac1 hb];refine zw (h:=λc=>?_);generalize hv:gv (az ai).n c y.2.length=v;refine go ?_;intro b44;refine RY (az ai) (v:=v) (xs:=y.2) p (.slice aq p.length cp) ⟨s6,s6,s6⟩ (next:=λc2=>?_);refine go ?_;have hl2:(y.2++[p]).length=y.2.length+1:=by rw[eF];rfl
  rw[show Value.slice (some ⟨c2,0,some (az ai).n⟩) (y.2.length+1) (y.2.length+1)=gv (az ai).n (some c2) (y.2++[p]).length by rw[hl2];rfl];refine uC (λc:ak Nat=>[pt b2 (.cells [gv (az ai).n c (y.2++[p]).length]),ap (az ai) (gv (az ai).n c (y.2++[p]).length) (y.2++[p])]) (some c2) (h:=?_);rw[show y.1++[Dp p]=(ny z (more.take (i+1))).1 by rw[hst],show y.2++[p]=(ny z (more.take (i+1))).2 by rw[hst]];exact eJ
def Dr(f:Nat):Bool:=decide (f=1)||decide (f=2)||decide (8<=f)
def kU(k:aQ)(i:Nat):su:=((k.lists.zipIdx).take i).foldl (λz q=>if Dr q.2=true then ny z (nu k.grid.cells.length q.1)else z) (ny ([],[]) (o9 k.grid))
def sw(k:aQ):ae (ae Int):=(kU k k.lists.length).2
def apX{g:bQ}(h:ic g):zK g:=by
 have h1:=ED h.make.wi h.make.he;have h2:=h.make.wi;have h3:=h.make.he;have h4:=h.make.len;have h5:=h.len;exact⟨by unfold mF;omega,by unfold mF;omega,s6,s6⟩
variable{lists:ae (ae Int)}
def ac4:(nu n lists).length<=lists.length*lists.length:=UX lists.length
def OW(h:p∈nu n lists):p.length=n:=by
 unfold nu at h;obtain⟨i,_,hi⟩:=Py.1 h;unfold BJ at hi;split at hi
 .obtain⟨b,_,rfl⟩:=bS.1 hi;rw[OU,kK]
 .cases hi
variable{vh vs vr vc vu gh gc vn vl:ah}{k:aQ}
def apY(hK:bE k):
 aX prog (.func 117) [.agg ⟨jO k vh vs vr vc vu gh gc vn vl⟩] [] [] (iT k vh vs vr vc vu gh gc vn vl []) (λc:ak Nat=>gv (az ai).n c (sw k).length) (λc=>[ap (az ai) (gv (az ai).n c (sw k).length) (sw k)]) (λ_=>[]) (λ_=>True):=by
 have hg:ic k.grid:=by rw[hK.grid];exact hK.bO
 have hcl:=hg.len;have hmf:=acW k.grid;refine gB 117 λB w0=>?_;dsimp only[iT];refine gF ai gc k.grid.cells λag cg eg=>?_;subst eg;refine go ?_;intro b1 b2;refine go ?_;refine yD iZ (λbm=>?_);refine go ?_;intro b3;refine gC (apI (g:=k.grid) (vh:=gh) (vc:=.slice ag k.grid.cells.length cg) (apX hg) hg) λc0 _=>?_;refine mD jr (A:=ap (az ai) (gv (az ai).n c0 (o9 k.grid).length) (o9 k.grid)) (fs:=[aj (az ai) (gv (az ai).n c0 (o9 k.grid).length) (o9 k.grid)]) (h:=?_);refine gF (az ai) (gv (az ai).n c0 (o9 k.grid).length) (o9 k.grid) λam cm em=>?_;rw[em];refine go ?_;refine lT (az ai) ?_;rw[show pt b2 (.cells [.slice none 0 0])=pt b2 (.cells [gv (az ai).n none 0])from rfl,show ap (az ai) (.slice none 0 0) ([]:ae (ae Int))=ap (az ai) (gv (az ai).n none 0) []from rfl];refine uC (λc:ak Nat=>[pt b2 (.cells [gv (az ai).n c (([],[]):su).2.length]),ap (az ai) (gv (az ai).n c (([],[]):su).2.length) (([],[]):su).2]) none (hk:=s9) (h:=?_);have hml:∀p∈o9 k.grid,p.length<=1000000:=λp hp=>by rw[acV hp];omega
 rw[show fV iZ bm []=fV iZ bm (yR (([],[]):su).1)from rfl];refine iy (OV (b2:=b2) (b3:=b3) (bm:=bm) (v:=.slice am (o9 k.grid).length cm) (e:=0) (z:=([],[])) (more:=o9 k.grid) (by show 0+_<=_;omega) hml) (next:=λ_ _=>?_);have h0:ny ([],[]) (o9 k.grid)=kU k 0:=rfl;rw[h0];have Kt:k.lists.length<=12:=by
  exact pL
 have hrg:∀r∈k.decl.regions,xe (bP k.decl) r.lists:=λr hr=>(hK.typ.Dc r hr).1.2;refine go ?_;have hz0:(kU k 0).2.length<=12+0*4194304:=by
  rw[<- h0];have:=Dq (o9 k.grid) ([],[]);simp only[wB]at this;omega
 refine dV (λi:Nat=>k.lists.length - i) (λi=>[(19,iV (i:Int))]) (λi=>[fV iZ bm (yR (kU k i).1),EY b2 (kU k i).2.length (kU k i).2]) (λ_=>[]) (λi=>i<=k.lists.length/\∃u,(kU k i).2.length<=12+u*4194304/\(i<=1->u=0)/\(i=2->u<=1)/\(3<=i->i<=8->u<=2)/\(9<=i->u+6<=i)) 0 ⟨bM _,0,hz0,s6,s6,s6,s6⟩ (hk:=s9) (body:=?_);rintro i ⟨hi,u,hu1,hu2,hu3,hu4,hu5⟩;refine aO ?_ ?_<;>intro h1
 rotate_left
 .obtain rfl:i=k.lists.length:=by omega
  refine zw (h:=λc=>?_);rw[show(kU k k.lists.length).2=sw k from rfl];cases c with
  |none=>
   dsimp only[gv];refine go ?_;exact gQ none trivial (hk:=s9)
  |some c=>
   dsimp only[gv];refine go ?_;exact gQ (some c) trivial (hk:=s9)
 refine gX (az (az ai)) (xs:=k.lists) λ_ _ L (vL:ah) hL=>?_;have Di:L∈oq k.decl:=by rw[<- hK.lists];exact aT hL
 have Kl:=NI hK.bO hrg L Di;have Ky:∀l∈L,iY k.grid.cells.length l/\l.Nodup:=λl hl=>⟨(hK.Oq hL).dJ l hl,akn hK.bO hrg L Di l hl⟩
 have uD:∀l∈L,l.length<=256:=λl hl=>by
  have:=Sm k.grid.cells.length l (Ky l hl).2 (Ky l hl).1;omega
 have hstep:kU k (i+1)=if Dr i=true then ny (kU k i) (nu k.grid.cells.length L)else kU k i:=by
  have hz:k.lists.zipIdx[i]? =some (L,i):=by rw[VT,hL];simp
  unfold kU;rw[fF hz,wD];rfl
 have hsw:=ac4 (n:=k.grid.cells.length) (lists:=L);have hsq:L.length*L.length<=2048*2048:=Nat.mul_le_mul Kl Kl;refine go ?_;by_cases f1:((i:Int)=1)
 .rw[eT f1];exact cw
 rw[bY f1];refine go ?_;by_cases f2:((i:Int)=2)
 .rw[eT f2];exact cw
 rw[bY f2];refine aO ?_ ?_<;>intro f8
 .exact cw
 have hst:kU k (i+1)=kU k i:=by rw[hstep,if_neg (by unfold Dr;simp;omega)]
 refine go ?_;rw[<- hst]at hu1⊢;exact aU (i+1) s6 ⟨s6,u,s6,s6,s6,s6,s6⟩
def apZ(hS:qg k)(hK:bE k):
 aX prog (.func 86) [.agg ⟨jO k vh vs vr vc vu gh gc vn vl⟩] [] [] (iT k vh vs vr vc vu gh gc vn vl []) (λc:ak Nat=>.tuple ⟨[gv (az ai).n c (sw k).length,iV 0]⟩) (λc=>[ap (az ai) (gv (az ai).n c (sw k).length) (sw k)]) (λ_=>[]) (λ_=>True):=by
 refine gB 86 λB w0=>?_;dsimp only[iT];refine go ?_;intro b1;refine gC (J6 (k:=k) hS) λb hb=>?_;cases b with
 |false=>exact absurd (hb.2 hK) s7
 |true=>
 refine gC (apY (k:=k) hK) λc _=>?_;refine go ?_;exact gQ c trivial
def ap0(hS:qg k)(hK:¬bE k):
 fC prog 86 [.agg ⟨jO k vh vs vr vc vu gh gc vn vl⟩] (iT k vh vs vr vc vu gh gc vn vl []) (λ_:Unit=>.tuple ⟨[.slice none 0 0,iV 180]⟩) (λ_=>True):=by
 refine gB 86 λB w0=>?_;dsimp only[iT];refine go ?_;intro b1;refine gC (J6 (k:=k) hS) λb hb=>?_;cases b with
 |true=>exact absurd (hb.1 rfl) hK
 |false=>
 exact eH
def U0(hn:n<=4096):aX prog (.func 90) [iV (n:Int)] [] [] [] (λbm:Nat=>.slice (some ⟨bm,0,some 0⟩) n n) (λbm=>[pt bm (.cells ((upTo' n).map iV))]) (λ_=>[]) (λ_=>True):=by
 refine gB 90 λB w0=>?_;refine go ?_;refine sW n ⟨s6,s6,s6⟩ λbm=>?_;rw[BB];refine go ?_;refine dV (λk=>n - k) (λk:Nat=>[(9,iV (k:Int))]) (λk=>[pt bm (.cells ((gM (upTo' k) n).map iV))]) (λ_=>[]) (λk=>k<=n) 0 (bM _) (hk:=s9) (body:=?_);intro k hk;have hcl:=kK k;refine aO ?_ ?_<;>intro h1
 .refine go ?_;refine jN (b:=bm) (o:=0+k*1) (cs:=(gM (upTo' k) n).map iV) (v:=iV (k:Int)) (cs':=(gM (upTo' (k+1)) n).map iV) (by rw[eB,lK,<- pQ,Bz hcl.symm s6,<- Ny]) GP ?_;refine go ?_;exact aU (k+1) s6 s6
 have hke:k=n:=s6
 subst hke;rw[BA hcl];refine go ?_;exact gQ bm trivial
def U4:oK (pt bm (.cells ((upTo' n).map iV))) [aj ai (.slice (some ⟨bm,0,some 0⟩) n n) (upTo' n)]:=by
 have:=qP (b:=bm) (f:=0) (c:=n) (xs:=upTo' n) (hc:=AF);rw[kK]at this;exact this
structure ac5(n:Nat)(L:List (List Int)):Prop where
 few:L.length<=1024
 all:∀g∈L,bD n g
def ap2{L:ae (ae Int)}(hn:n<=256)(hl:L.length<2^63)(hls:∀g∈L,g.length<2^63):
 fC prog 122 [iV (n:Int),v] [aj (az ai) v L] (λe:Int=>iV e) (λe=>(e=0↔ac5 n L)/\((∀g∈L,bD n g)->e=0\/e=2)):=by
 refine gB 122 λB w0=>?_;refine gF (az ai) v L λaL cL eL=>?_;subst eL;refine aO ?_ ?_<;>intro h2
 .exfalso;omega
 refine aO ?_ ?_<;>intro h3
 .refine go ?_;exact gQ 2 ⟨⟨(λh=>by cases h),λq=>by have:=q.few;omega⟩,λ_=>.inr rfl⟩
 refine gN L.length 18 (λj=>j<=L.length/\∀g∈L.take j,bD n g) ⟨bM _,s7⟩ ?_;rintro j ⟨hj,hall⟩;refine aO ?_ ?_<;>intro h4
 .refine gX (az ai) (xs:=L) λ_ _ g (vg:ah) hg=>?_;have hgm:=aT hg;refine gC (Ka (xs:=g) (n:=n) hn (hls g hgm)) λb hb=>?_;cases b with
  |false=>
   refine go ?_;exact gQ 110 ⟨⟨(λh=>by cases h),λq=>by have:=hb.2 (q.all g hgm);cases this⟩,λq=>by have:=hb.2 (q g hgm);cases this⟩
  |true=>
  refine go ?_;refine aU (j+1) s6 ⟨s6,λx hx=>?_⟩;rw[fF hg]at hx;rcases fq.1 hx with hx|hx
  .exact hall x hx
  .rw[bA.1 hx];exact hb.1 rfl
 have jT:j=L.length:=s6
 subst jT;rw[fu]at hall;refine go ?_;exact gQ 0 ⟨⟨λ_=>⟨s6,hall⟩,λ_=>rfl⟩,λ_=>.inl rfl⟩
def ap3{b1:Nat}(hK:bE k)(x:ae Int)(hx:x.length<2^63):
 ∀v:ah,aX prog (.func 88) [v] [ptr' b1,ptr' b2] [] (aj ai v x::bW b1 0 (jO k vh vs vr vc vu gh gc vn vl)::bW b2 0 [iV (k.decl.symbols.length:Int)]::iT k vh vs vr vc vu gh gc vn vl []) (λb:Bool=>.bool (!b)) (λ_=>[]) (λ_=>[]) (λb=>b=true↔eU k x (upTo' k.decl.symbols.length)):=by
 intro v;have hm:=hK.typ.lim.s1;have hl:=kK k.decl.symbols.length;refine gB 88 λB w0=>?_;dsimp only[iT];refine gF ai v x λax cx ex=>?_;subst ex;refine gC (U0 (n:=k.decl.symbols.length) s6) λbm _=>?_;refine gZ (U4 (bm:=bm) (n:=k.decl.symbols.length)) ?_;refine gC (UQ (k:=k) (s:=x) (t:=upTo' k.decl.symbols.length) (sc:=.slice ax x.length cx) (st:=.slice (some ⟨bm,0,some 0⟩) k.decl.symbols.length k.decl.symbols.length) hK hx s6) λb hb=>?_;refine go ?_;exact gQ b hb
def ap4{Q:IH->Prop}(h:R Q B w0 (ap (az ai) (.slice (some ⟨b,0,some 0⟩) 1 1) [p]::kl') F)(hk:aB (pt b (.cells [v])) kl kl':=by exact dU)
 (hf:aj ai v p∈F:=by exact iN):R Q B w0 kl F:=λw s=>by
 have hfp:=s.facts _ hf;have s1:=s.fI hk;obtain⟨S,⟨S1,S2,q1,q2,e⟩,h2,h3⟩:=s1.own;refine h w ⟨s.agree,s.le,s.fH,⟨S,⟨S1,S2,.inr ⟨b,0,0,[v],rfl,.inl rfl,q1.1,q1.2,rfl,λk x hx=>?_⟩,q2,e⟩,h2,h3⟩,s.facts⟩;match k,hx with
 |0,hx=>
  cases hx;refine⟨v,λj u hj=>?_,λf hf=>by rw[bA.1 hf];exact hfp⟩;match j,hj with
  |0,hj=>exact hj
  |j+1,hj=>cases hj
variable{gu l:ae (ae Int)}
def ap5{k:Nat}{g:ae Int}(h:qc n gu l k)(hg:g∈gu)(hq:l[k]? =some q)(hno:bC g q∉l):qc n gu (l++[bC g q]) k where
 gp:=h.gp
 nd:=by
  rw[jA];exact⟨h.nd,s7,λa ha b hb e=>hno (by rw[<- bA.1 hb,<- e];exact ha)⟩
 first:=by
  have:=(aV.1 h.first).1;rw[jL this];exact h.first
 C8 i p hp:=by
  have hk:=(aV.1 hq).1;by_cases hi:i<l.length
  .rw[jL hi]at hp;rcases h.C8 i p hp with e|⟨j,g',q',hj,hg',hq',e⟩
   .exact .inl e
   .exact .inr ⟨j,g',q',hj,hg',by rw[jL s6];exact hq',e⟩
  .right;rw[jP s6]at hp;have hp0:i=l.length:=by
    have:=(aV.1 hp).1;simp at this;omega
   subst hp0;rw[nX]at hp;cases hp;exact⟨k,g,q,hk,hg,by rw[jL hk];exact hq,rfl⟩
 done i q' hi hq' g' hg':=by
  have hk:=(aV.1 hq).1;rw[jL s6]at hq';exact jl _ (h.done i q' hi hq' g' hg')
def ap6{k:Nat}(h:qc n gu l k)(hq:l[k]? =some q)(hall:∀g∈gu,bC g q∈l):qc n gu l (k+1) where
 gp:=h.gp
 nd:=h.nd
 first:=h.first
 C8:=h.C8
 done i q' hi hq' g hg:=by
  by_cases e:i=k
  .subst e;rw[hq]at hq';cases hq';exact hall g hg
  .exact h.done i q' s6 hq' g hg
def U5{k:Nat}(h:qc n gu l k):∀q∈l,bD n q:=λq hq=>by
 obtain⟨i,hi⟩:=iM hq;exact h.perm i q hi
def ap7(h:∀g∈gu,bD n g):qc n gu [upTo' n] 0 where
 gp:=h
 nd:=s7
 first:=rfl
 C8 i p hp:=by
  left;have:=(aV.1 hp).1;simp at this;omega
 done i q hi:=absurd hi (yU _)
variable{P:Program}{ty:aD}
def ap8(h:P.underlying ty=some (.int .u8))(a b:Int)(d:Nat):dK P (Op.equalIn (d+1) ty (.int .u8 a) (.int .u8 b))=some (decide (a=b)):=by
 exact qT
def U6(h:P.underlying ty=some (.int .u8)){v:ah}{xs:Array ah}{o:Nat}(hx:xs[o]? =some v):dK P (part ty xs o)=some v:=by
 have hag:dK P (isAgg ty)=some false:=by
  unfold isAgg;rw[fP,qy h];rfl
 exact j7
variable{e:aD}
def ac6(hs:P.info? e|>.map (·.size)|>(·=some 1)):dK P (sizeOf e)=some 1:=by
 exact fR
def ap9{t:aD}{ys:ae Int}(hu:P.underlying t=some (.array n e))(he:P.underlying e=some (.int .u8))(hs:P.info? e|>.map (·.size)|>(·=some 1))(hx:xs.length=n)(hy:ys.length=n):
 dK P (Op.equalIn (d+2) t (.agg ⟨xs.map (.int .u8)⟩) (.agg ⟨ys.map (.int .u8)⟩))=some (decide (xs=ys)):=by
 have hsz:=ac6 hs;unfold Op.equalIn;rw[fP,qy hu];simp only[iL];rw[fP,hsz];simp only[iL,lK];rw[Std.Legacy.Range.forIn_eq_forIn_range'];simp only[Std.Legacy.Range.size,xN,VO,Nat.div_one];have key:∀(m i:Nat),i+m=n->dK P (do
  let JB <- forIn (List.range' i m 1) ((none,()):ak Bool×Unit) λi JB=>
   (do let a <- part e ⟨xs.map (.int .u8)⟩ i
       let b <- part e ⟨ys.map (.int .u8)⟩ i
       let r <- Op.equalIn (d+1) e a b
       if(!r)=true then pure (ForInStep.done (some false,()))else pure (ForInStep.yield (none,())))
  match JB.fst with
  |some r=>pure r
  |none=>pure true)=some (decide (xs.drop i=ys.drop i)):=by
  intro m;induction m with
  |zero=>
   intro i hi;rw[vz s6,vz s6];rfl
  |succ m ih=>
   intro i hi;have hix:i<xs.length:=s6
   have JC:i<ys.length:=s6
   rw[List.range'_succ,List.forIn_cons];simp only[fP,JA];rw[U6 he (xs:=⟨xs.map (.int .u8)⟩) (o:=i) (v:=.int .u8 xs[i]) (by simp[hix]),iL,U6 he (xs:=⟨ys.map (.int .u8)⟩) (o:=i) (v:=.int .u8 ys[i]) (by simp[JC]),iL,ap8 he,iL];exact cN
 have:=key n 0 s6;rw[yX,yX]at this;refine Eq.trans ?_ this;simp only[fP];congr 1;funext s
 cases s.fst<;>rfl
abbrev Key:={t:ae Int//t.length=256}
def BK(t:Key):ah:=.agg ⟨t.1.map (.int .u8)⟩
def ac7:∀zs:ae Int,iU (zs.map (Value.int .u8))=true
 |[]=>rfl
 |x::zs=>by rw[fA];simp[iU,dG,Ideal.cellV,ac7 zs]
def aqa{kt:aD}(hu:P.underlying kt=some (.array 256 e))(he:P.underlying e=some (.int .u8))(hs:P.info? e|>.map (·.size)|>(·=some 1)):rW P kt BK where
 Et a:=by
  refine Rv (by unfold BK;simp only[dG];exact ac7 a.1) λb=>?_;show dK P (Instr.checkKey b (9999+1) kt (.agg ⟨a.1.map (.int .u8)⟩))=_;unfold Instr.checkKey;rw[fP,qy hu];simp only[iL];rw[Std.Legacy.Range.forIn_eq_forIn_range'];simp only[Std.Legacy.Range.size,xN,VO,Nat.div_one];have hsz:=ac6 hs;have key:∀(m i:Nat),i+m=256->dK P (forIn (List.range' i m) PUnit.unit λi _=>do
   let n <- sizeOf e
   let v <- part e ⟨a.1.map (Value.int .u8)⟩ (i*n)
   Instr.checkKey b 9999 e v
   pure (ForInStep.yield PUnit.unit))=some PUnit.unit:=by
   intro m;induction m with
   |zero=>intro i _;rfl
   |succ m ih=>
    intro i hi;have hix:i<a.1.length:=by rw[a.2];omega
    rw[List.range'_succ,List.forIn_cons];rw[fP,fP,hsz,iL,fP,lK,U6 he (xs:=⟨a.1.map (.int .u8)⟩) (o:=i) (v:=.int .u8 a.1[i]) (by simp[hix]),iL,fP];have hc:dK P (Instr.checkKey b (9998+1) e (.int .u8 a.1[i]))=some ():=by
     unfold Instr.checkKey;rw[fP,qy he];rfl
    rw[hc];exact ih (i+1) s6
  rw[fP,key 256 0 s6];rfl
 find a aA es h:=RI hu (λa b=>rfl) (λa b=>by
  have:=ap9 (d:=9998) (xs:=a.1) (ys:=b.1) hu he hs a.2 b.2;rw[show decide (a=b)=decide (a.1=b.1)from rF.2 ⟨λh=>by rw[h],Subtype.ext⟩];exact this) a aA es h
 same a:=by
  show((⟨a.1.map (Value.int .u8)⟩:Array ah).size==(⟨a.1.map (Value.int .u8)⟩:Array ah).size&&(List.zip (a.1.map (Value.int .u8)) (a.1.map (Value.int .u8))).all λ(x,y)=>Instr.sameBits 9999 x y)=true;rw[eP];refine⟨s7,?_⟩;rw[jy];rintro⟨x,y⟩ hxy;have hz:∀(l:ae ah) (x y:ah),(x,y)∈List.zip l l->x=y:=by
   intro l;induction l with
   |nil=>intro x y h;cases h
   |cons c l ih=>
    intro x y h;rw[Pn]at h;rcases bH.1 h with h|h
    .cases h;rfl
    .exact ih x y h
  have e:=hz _ x y hxy;subst e;obtain⟨i,_,rfl⟩:=bS.1 (List.of_mem_zip hxy).1;simp[Instr.sameBits]
def aqb(p:ae Int)(h:p.length<=256):(gM (p.map λx=>IntKind.u8.wrap x) 256).length=256:=xC (by rw[aR];exact h)
def mM(p:ae Int):Key:=if h:p.length<=256 then⟨gM (p.map λx=>IntKind.u8.wrap x) 256,aqb p h⟩else⟨List.replicate 256 0,wC⟩
def aqc(h:p.length<=256):BK (mM p)=.agg ⟨(gM (p.map λx=>IntKind.u8.wrap x) 256).map (.int .u8)⟩:=by unfold mM BK;rw[dif_pos h]
def U7:rW prog 174 BK:=aqa (e:=5) s8 s8 s8
def ac8(hn:n<=256)(hp:iY n p)(hq:iY n q)(hl:p.length=n)(hm:q.length=n)(h:mM p=mM q):p=q:=by
 have e:=congrArg Subtype.val h;unfold mM at e;rw[dif_pos s6,dif_pos s6]at e;dsimp only at e;unfold gM at e;have e2:=List.append_inj_left e (by rw[aR,aR,hl,hm]);refine List.ext_getElem s6 λi h1 h2=>?_;have e3:=congrArg (·[i]?) e2;simp only[bU,bG h1,bG h2,lq,aN]at e3;have b1:=hp _ (wo h1);have b2:=hq _ (wo h2);have w:∀x:Int,0<=x->x<256->IntKind.u8.wrap x=x:=λx h0 h1=>by
  show x%256=x;omega
 rw[w _ s6 s6,w _ s6 s6]at e3;exact e3
def ac9{α:Type}:∀l:ae α,jH l 0 l=some l
 |[]=>rfl
 |x::l=>by rw[Ld,ac9 l];rfl
def U8(hl:p.length<=256):dZ prog 123 [v] [aj ai v p] (BK (mM p)):=by
 rw[aqc hl];refine gB 123 λB w0=>?_;refine gF ai v p λal cl el=>?_;subst el;refine go ?_;intro b2;refine dV (λj:Nat=>p.length - j) (λj=>[(7,iV (j:Int))]) (λj=>[pt b2 (.cells ((gM ((p.take j).map λx=>IntKind.u8.wrap x) 256).map (.int .u8)))]) (λ_=>[]) (λj=>j<=p.length) 0 (bM _) (hk:=CD) (body:=?_);intro j hj;have hjl:((p.take j).map λx=>IntKind.u8.wrap x).length=j:=z6
 refine aO ?_ ?_<;>intro h2
 .refine go ?_;intro _ _ x hx;refine go ?_;refine(cZ rfl rfl (zz (k:=.u8) (m:=IntKind.u8.wrap x) (by kernel_rfl:prog.underlying 3=some (.int .i64)) s8 rfl rfl)).h ?_;refine go ?_;refine jN (b:=b2) (o:=0+j*1) (cs:=(gM ((p.take j).map λx=>IntKind.u8.wrap x) 256).map (.int .u8)) (v:=.int .u8 (IntKind.u8.wrap x)) (cs':=(gM ((p.take (j+1)).map λx=>IntKind.u8.wrap x) 256).map (.int .u8)) Hx GP ?_;exact eN
 obtain rfl:j=p.length:=s6
 rw[fu]at hjl⊢;refine go ?_;generalize hcs:(gM (p.map λx=>IntKind.u8.wrap x) 256).map (Value.int .u8)=cs;have hcl:cs.length=256:=by rw[<- hcs,aR,xC s6]
 have hrd:jM (kw cs 0) 256=some cs:=by rw[qp,qJ,yX,if_pos s6,<- hcl,fu]
 refine(Rc (cs:=cs) (c:=cs) rfl rfl rfl .here hrd).h ?_;refine(Re (cs:=cs) (vs:=cs) (c:=cs) rfl rfl rfl (by rw[xV,hcl];rfl) .here (ac9 cs)).h ?_;refine go ?_;exact qQ () (hr:=.pV rfl .here hrd .nil) (hv:=rfl) (hp:=trivial)
open Go.Ideal Kd Canon Go.Shelf Go.Sort
def aqd:SWO (ltOf (dN dx)):=by
 have h:=vI vH;have hz:=h.zero;have hn:=h.neg;have ht:=h.trans;refine⟨λx=>?_,λx y z h1 h2=>?_,λx y z h1 h2=>?_⟩
 .have:=(hz x x).2 rfl;exact bY s6
 .exact eT (ht x y z (ko h1) (ko h2))
 .have h1:¬dN dx x y<0:=uZ h1;have h2:¬dN dx y z<0:=uZ h2;refine bY λh3=>?_;by_cases e1:dN dx x y=0
  .rw[(hz x y).1 e1]at h3;exact h2 h3
  by_cases e2:dN dx y z=0
  .rw[<- (hz y z).1 e2]at h3;exact h1 h3
  exact j0
def aqe:JG prog 124 1 wZ:=ajk λα _ enc cf g cb blk off cap d w h1 hO eg hcmp hH hblk hsz=>Any.slices_SortFunc Tryz.laysT6 enc h1 cf hO g cb blk off cap d w eg hcmp hH hblk hsz
def aqf:JH prog 124:=λp cap fv w=>AnyF.slices_SortFunc_none {Tryz.laysT6 with} p cap fv w
def ada(f:fO)(h2:(prog.funcs[f]?).map (λf=>f.name== "runtime.NumGoroutine")=some false)(h3:(prog.funcs[f]?).map (λf=>f.body.isSome)=some true):∃fn body,prog.funcs[f]? =some fn/\fn.body=some body/\fn.name≠ "runtime.NumGoroutine" :=by
 cases hfn:prog.funcs[f]? with
 |none=>rw[hfn]at h2;cases h2
 |some fn=>
  rw[hfn]at h2 h3;have h2:(fn.name== "runtime.NumGoroutine")=false:=Option.some.inj h2;have h3:fn.body.isSome=true:=Option.some.inj h3;obtain⟨body,hb⟩:=KJ.1 h3;exact⟨fn,body,rfl,hb,ua⟩
def aqg{a:ak Addr}{xs:ae (ae Int)}(hm:m=xs.length)(hl:xs.length<4611686018427387904)(hx:∀x∈xs,x.length<=1000000):
 aX prog (.func 124) [.slice a m m,.func (.func 68) ⟨[]⟩ ⟨[]⟩] [] [ap (az ai) (.slice a m m) xs] [] (λ_:ae (ae Int)=>.tuple ⟨[]⟩) (λys=>[ap (az ai) (.slice a m m) ys]) (λ_=>[]) (λys=>ys.Perm xs/\ys.Pairwise λx y=>¬dN dx y x<0):=by
 subst hm;obtain⟨fn,body,h1,h2,h3⟩:=ada 124 s8 s8;obtain⟨gn,Gq,g1,g2,g3⟩:=ada 68 s8 s8;exact Zo (E:=az ai) (xs:=xs) (F:=[]) (cap:=[]) UR ajl aqe aqf h1 h2 h3 g1 g2 g3 rfl td aqd (λx hxm y hym va vb=>Om (hx x hxm) (hx y hym)) hl
def BL(l:ae (ae Int)):ae (Key×ah):=l.map λp=>(mM p,.bool true)
def adb{n:Nat}{p:ae Int}(hn:n<=256)(hp:bD n p):∀{l:ae (ae Int)},(∀q∈l,bD n q)->jJ false (.bool false) (mM p) (BL l)=.bool (decide (p∈l))
 |[],_=>rfl
 |c::l,h=>by
  have ih:=adb hn hp (l:=l) (λq hq=>h q (dB _ hq));have hc:=h c (dD ..);unfold jJ at ih⊢;have e:dF (mM p) (BL (c::l))=if mM p=mM c then some (Value.bool true)else dF (mM p) (BL l):=rfl
  rw[e];by_cases hh:mM p=mM c
  .have:=ac8 hn hp.dJ hc.dJ hp.len hc.len hh;rw[if_pos hh,eT (by rw[this];exact dD ..)];rfl
  .rw[if_neg hh];refine ih.trans ?_;congr 1;exact rF.2 ⟨dB _,λe=>(bH.1 e).elim (λe=>absurd (by rw[e]) hh) id⟩
def ade{n:Nat}{p:ae Int}(hn:n<=256)(hp:bD n p):∀{l:ae (ae Int)},(∀q∈l,bD n q)->p∉l->upd (mM p) (.bool true) (BL l)=BL (l++[p])
 |[],_,_=>rfl
 |c::l,h,hno=>by
  have hc:=h c (dD ..);have h1:mM p≠mM c:=λe=>hno (by rw[ac8 hn hp.dJ hc.dJ hp.len hc.len e];exact dD ..);show(if mM p=mM c then _ else(mM c,Value.bool true)::upd (mM p) (.bool true) (BL l))=_;rw[if_neg h1,ade hn hp (λq hq=>h q (dB _ hq)) (λe=>hno (dB _ e))];rfl
structure aqh(n:Nat)(gu:List (List Int))(G:List (List Int))(e:Int):Prop where
 err:e≠0->G=[]/\((∀g∈gu,bD n g)->e=2)
 ok:e=0->∃l,qc n gu l l.length/\G.Perm l/\l.length<=4096/\G.Pairwise λx y=>¬dN dx y x<0
structure aqi where
 v:Value
 G:List (List Int)
 e:Int
def aqj(hn:n<=256)(hl:gu.length<2^63)(hls:∀g∈gu,g.length<2^63):
 aX prog (.func 91) [iV (n:Int),v] [] [] [aj (az ai) v gu] (λy:aqi=>.tuple ⟨[y.v,iV y.e]⟩) (λy=>[ap (az ai) y.v y.G]) (λ_=>[]) (λy=>aqh n gu y.G y.e):=by
 refine gB 91 λB w0=>?_;refine gF (az ai) v gu λag cg eg=>?_;subst eg;refine gC (ap2 (n:=n) (v:=.slice ag gu.length cg) (L:=gu) hn hl hls) λe he=>?_;refine aO ?_ ?_<;>intro h1
 .refine go ?_;refine lT (az ai) ?_;exact gQ ⟨.slice none 0 0,[],e⟩ ⟨λ_=>⟨rfl,λh=>(he.2 h).resolve_left h1⟩,λh=>absurd h h1⟩ (hk:=CD)
 have hz:e=0:=kv.1 h1;subst hz;have hG:ac5 n gu:=he.1.1 rfl;clear he;refine go ?_;refine sW n ⟨s6,s6,s6⟩ λbm=>?_;rw[BB];refine go ?_;refine dV (λj:Nat=>n - j) (λj=>[(23,iV (j:Int))]) (λj=>[pt bm (.cells ((gM (upTo' j) n).map iV))]) (λ_=>[]) (λj=>j<=n) 0 (bM _) (hk:=s9) (body:=?_);intro j hj;have rq:=kK j;refine aO ?_ ?_<;>intro h5
 .refine go ?_;refine jN (b:=bm) (o:=0+j*1) (cs:=(gM (upTo' j) n).map iV) (v:=iV (j:Int)) (cs':=(gM (upTo' (j+1)) n).map iV) Hv GP ?_;exact eN
 obtain rfl:j=n:=s6
 rw[BA rq];refine gZ (U4 (bm:=bm) (n:=j)) ?_;refine go ?_;intro b32;refine go ?_;refine yD BK (λbs=>?_);refine gC (U8 (v:=.slice (some ⟨bm,0,some 0⟩) j j) (p:=upTo' j) s6) λ_ _=>?_;refine vJ U7 (mM (upTo' j)) ?_ (ha:=rfl);rw[show upd (mM (upTo' j)) (Value.bool true) []=BL [upTo' j]from rfl];refine ap4 (b:=b32) (v:=.slice (some ⟨bm,0,some 0⟩) j j) (p:=upTo' j) ?_;refine go ?_;refine dV (λy:Nat×ah×ae (ae Int)=>4097 - y.1) (λy=>[(9,iV (y.1:Int)),(4,y.2.1)]) (λy=>[ap (az ai) y.2.1 y.2.2,fV BK bs (BL y.2.2)]) (λ_=>[]) (λy=>qc j gu y.2.2 y.1/\y.1<=y.2.2.length/\y.2.2.length<=4096) (0,.slice (some ⟨b32,0,some 0⟩) 1 1,[upTo' j]) ⟨ap7 hG.all,bM _,by show 1<=4096;omega⟩ (hk:=s9) (body:=?_);rintro⟨at_,v4,l⟩ ⟨hC,hat,hlm⟩;dsimp only at hC hat hlm⊢;refine Nk (E:=az ai) (v:=v4) (xs:=l) λa4 e4 hnil=>?_;subst e4;refine aO ?_ ?_<;>intro h2
 rotate_left
 .obtain rfl:at_=l.length:=by omega
  refine gC (aqg (a:=a4) (m:=l.length) (xs:=l) rfl s6 (λx hx=>by have:=(U5 hC x hx).len;omega)) λys hys=>?_;refine go ?_;exact gQ ⟨.slice a4 l.length l.length,ys,0⟩ ⟨λh=>absurd rfl h,λ_=>⟨l,hC,hys.1,hlm,hys.2⟩⟩
 have hq:l[at_]? =some (l[at_]'(s6)):=bG _;generalize hqe:l[at_]'(s6)=q at hq;have U9:=hC.perm at_ q hq;refine go ?_;refine dV (λy:Nat×ah×ae (ae Int)=>gu.length - y.1) (λy=>[(45,iV (y.1:Int)),(4,y.2.1)]) (λy=>[ap (az ai) y.2.1 y.2.2,fV BK bs (BL y.2.2)]) (λ_=>[]) (λy=>y.1<=gu.length/\qc j gu y.2.2 at_/\y.2.2[at_]? =some q/\y.2.2.length<=4096/\∀g∈gu.take y.1,bC g q∈y.2.2) (0,.slice a4 l.length l.length,l) ⟨bM _,hC,hq,hlm,λg hg=>by cases hg⟩ (hk:=s9) (body:=?_);clear hC hat hlm hnil h2 hq hqe;rintro⟨i,v4,l⟩ ⟨hi,hC,hq,hlm,hall⟩;dsimp only at hi hC hq hlm hall⊢;have hat:=(aV.1 hq).1;refine aO ?_ ?_<;>intro h2
 rotate_left
 .obtain rfl:i=gu.length:=by omega
  rw[fu]at hall;refine go ?_;exact aU (at_+1,v4,l) (by show 4097 - (at_+1)<4097 - at_;omega) ⟨ap6 hC hq hall,by show at_+1<=l.length;omega,hlm⟩
 refine Nk (E:=az ai) (v:=v4) (xs:=l) λa5 e5 hnil=>?_;subst e5;refine gX (az ai) (xs:=gu) λ_ _ g (vg:ah) hg=>?_;have hgm:=aT hg;have hgp:=hG.all g hgm;refine go ?_;refine OQ at_ q hq λ_ _ vq=>?_;refine gC (ab1 (a:=g) (b:=q) (n:=j) hgp.len U9.dJ (by have:=U9.len;omega)) λbp _=>?_;have hcl:(bC g q).length=q.length:=by unfold bC;rw[aR]
 have zP:bD j (bC g q):=hgp.comp U9;refine gZ (qP (b:=bp) (f:=0) (c:=q.length) (xs:=bC g q) (hc:=s6)) ?_;rw[hcl];generalize hpe:bC g q=p at *;refine gC (U8 (v:=.slice (some ⟨bp,0,some 0⟩) q.length q.length) (p:=p) (by have:=zP.len;omega)) λ_ _=>?_;refine go ?_;refine Ex U7 (mM p) ?_ (ha:=rfl);rw[adb hn zP (U5 hC)];by_cases hm:p∈l
 .rw[eT hm];refine go ?_;exact aU (i+1,.slice a5 l.length l.length,l) FG ⟨by show i+1<=_;omega,hC,hq,hlm,λg' hg'=>by
   rw[fF hg]at hg';rcases fq.1 hg' with h|h
   .exact hall g' h
   .rw[bA.1 h,hpe];exact hm⟩
 rw[bY hm];refine aO ?_ ?_<;>intro h3
 .refine go ?_;refine lT (az ai) ?_;exact gQ ⟨.slice none 0 0,[],2⟩ ⟨λ_=>⟨rfl,λ_=>rfl⟩,λh=>by cases h⟩ (hk:=CD)
 refine gC (U8 (v:=.slice (some ⟨bp,0,some 0⟩) q.length q.length) (p:=p) (by have:=zP.len;omega)) λ_ _=>?_;refine go ?_;refine vJ U7 (mM p) ?_ (ha:=rfl);rw[ade hn zP (U5 hC) hm];refine go ?_;intro b67;refine kY (az ai) (v:=.slice a5 l.length l.length) (xs:=l) p (.slice (some ⟨bp,0,some 0⟩) q.length q.length) (cs:=[.slice (some ⟨bp,0,some 0⟩) q.length q.length]) s6 (next:=λv6=>?_);refine go ?_;have hsn:=ap5 hC hgm hq (by rw[hpe];exact hm);rw[hpe]at hsn;exact aU (i+1,.slice v6 (l.length+1) (l.length+1),l++[p]) FG ⟨by show i+1<=_;omega,hsn,by show(l++[p])[at_]? =some q;rw[jL hat];exact hq,by show(l++[p]).length<=4096;rw[eF,u7];omega,λg' hg'=>by
  show bC g' q∈l++[p]
  rw[fF hg]at hg';rcases fq.1 hg' with h|h
  .exact jl _ (hall g' h)
  .rw[bA.1 h,hpe];exact nD _ (bA.2 rfl)⟩
