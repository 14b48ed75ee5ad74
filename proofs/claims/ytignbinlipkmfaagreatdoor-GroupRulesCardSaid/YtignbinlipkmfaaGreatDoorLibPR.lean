/- Part. -/
import Derived.Test.YtignbinlipkmfaaGreatDoorLibOR
import Derived.Test.YtignbinlipkmfaaGreatDoorShelfT
set_option linter.all false
set_option maxRecDepth 10000
set_option maxHeartbeats 4000000
namespace Go.Proofs.YtignbinlipkmfaaGreatDoor
open Tryz (prog)
open Go.Ideal Kd Canon
def adi:∀xs:ae Int,DF (xs.map (.int .u8))=some (xs.map λx=>UInt8.ofNat x.toNat)\/∃x∈xs,x<0
 |[]=>.inl rfl
 |x::xs=>by
  rcases adi xs with h|⟨y,hy,h⟩
  .by_cases hx:x<0
   .exact .inr ⟨x,fF ..,hx⟩
   .left;obtain⟨n,rfl⟩:=jK (by omega:0<=x);rw[kv];show(match (Value.int .u8 (n:Int)),DF (xs.map (.int .u8))with| .int .u8 k,some r=>some (UInt8.ofNat k.toNat::r)|_,_=>none)=_;rw[h];rfl
  .exact .inr ⟨y,iw _ hy,h⟩
variable{n d b m:Nat}{xs:ae Int}{B:ae Nat}{w0:Wd}{kl kl':ae OA}{F:ae aM}
def arl{K:KO}{ds:ae Tmp}{rest:ae bW}{l:qr}{D:ae Deferred}{pm:ak FrameMode}{ro:ak Nat}{g:ak (Tmp×Bool)}{x:az}(hm:xs.length=m)(hx0:∀x∈xs,0<=x)(next:R (λh=>aJ prog ds rest (act n ((d,.string ⟨⟨xs.map λx=>UInt8.ofNat x.toNat⟩⟩)::l) D pm ro) h K) B w0 kl F)
 (hx:ev l x=.slice (some ⟨b,0,some 0⟩) m m:=by rfl) (hk:aB (pt b (.cells (xs.map (.int .u8)))) kl kl':=by repeat (first|exact aB.here|apply aB.there)) (hn:Nat.blt d n=true:=by rfl) (hg:bV l g=true:=by rfl):
 R (λh=>aJ prog ds (⟨⟨some d,g,.Il x⟩,[]⟩::rest) (act n l D pm ro) h K) B w0 kl F:=
 (ajQ hn hg (v:=.string ⟨⟨xs.map λx=>UInt8.ofNat x.toNat⟩⟩) λw s=>by
   have hr:w.h.iK b 0 m=some (xs.map (.int .u8)):=by
    rw[(s.at_ hk).cX.iK,o8,o9,wh,if_pos zp,<- hm];congr 1;exact oQ (by rw[bC];exact bI _)
   have hb:DF (xs.map (.int .u8))=some (xs.map λx=>UInt8.ofNat x.toNat):=by
    rcases adi xs with h|⟨y,hy,h⟩
    .exact h
    .have:=hx0 y hy;omega
   simp only[aK.run,hx,hr,hb]).h next
def Df(p:ae Int):ByteArray:=⟨⟨(p.map λx=>IntKind.u8.wrap x).map λx=>UInt8.ofNat x.toNat⟩⟩
def yP(ks:ae ByteArray):ae (ByteArray×ah):=ks.map λk=>(k,.bool true)
def Hu(k:ByteArray)(ks:ae ByteArray):Bool:=ks.any λc=>decide (k=c)
def adj{k:ByteArray}:∀{ks:ae ByteArray},Hu k ks=false->upd k (.bool true) (yP ks)=yP (ks++[k])
 |[],_=>rfl
 |c::ks,h=>by
  unfold Hu at h;rw[List.any_cons,Bool.or_eq_false_iff]at h;have h1:k≠c:=ou h.1;show(if k=c then _ else(c,Value.bool true)::upd k (.bool true) (yP ks))=_;rw[if_neg h1,adj h.2];rfl
def adk{k:ByteArray}:∀{ks:ae ByteArray},jX false (.bool false) k (yP ks)=.bool (Hu k ks)
 |[]=>rfl
 |c::ks=>by
  have ih:=adk (k:=k) (ks:=ks);unfold jX at ih⊢;have e:dG k (yP (c::ks))=if k=c then some (Value.bool true)else dG k (yP ks):=rfl
  rw[e];unfold Hu at ih⊢;rw[List.any_cons];by_cases h:k=c
  .rw[if_pos h,dQ h,Bool.true_or];rfl
  .rw[if_neg h,aW h,Bool.false_or];exact ih
abbrev rW:=ae ByteArray×ae (ae Int)
def vT(z:rW)(p:ae Int):rW:=if Hu (Df p) z.1=true then z else(z.1++[Df p],z.2++[p])
def mZ(z:rW)(more:ae (ae Int)):rW:=more.foldl vT z
variable{p:ae Int}{z:rW}
def arn:(vT z p).2.length<=z.2.length+1:=by
 unfold vT;split
 .omega
 .rw[fV,BD];exact bI _
def Dg:∀(more:ae (ae Int)) (z:rW),(mZ z more).2.length<=z.2.length+more.length
 |[],z=>bI _
 |p::more,z=>by
  have h1:=Dg more (vT z p);have h2:=arn (z:=z) (p:=p);show(mZ (vT z p) more).2.length<=_;rw[uS];omega
variable{q:ae Int}
def aro(h:q∈(vT z p).2):q∈z.2\/q=p:=by
 unfold vT at h;split at h
 .exact .inl h
 .rcases eP.1 h with h|h
  .exact .inl h
  .exact .inr (bS.1 h)
def VM{q:ae Int}:∀(more:ae (ae Int)) (z:rW),q∈(mZ z more).2->q∈z.2\/q∈more
 |[],z,h=>.inl h
 |p::more,z,h=>by
  rcases VM more (vT z p) h with h|h
  .rcases aro h with h|h
   .exact .inl h
   .exact .inr (by rw[h];exact fF ..)
  .exact .inr (iw _ h)
def arp(x:Int):0<=IntKind.u8.wrap x/\IntKind.u8.wrap x<256:=by
 show 0<=x%256/\x%256<256;omega
variable{b2 bm:Nat}{v:ah}
def Qi{b3:Nat}{e:Int}{more:ae (ae Int)}(hm:z.2.length+more.length<=40000000)(hl:∀p∈more,p.length<=1000000):
 bG prog (.func 63) [v,iV e] [ptr' b3,ptr' b2] [pt b3 (.cells [.map (some bm)]),gW fU bm (yP z.1),E5 b2 z.2.length z.2] [aj (ay ai) v more] (λ_:Unit=>.tuple ⟨[]⟩)
  (λ_=>[pt b3 (.cells [.map (some bm)]),gW fU bm (yP (mZ z more).1),E5 b2 (mZ z more).2.length (mZ z more).2]) (λ_=>[]) (λ_=>True):=by
 refine gB 63 λB w0=>?_;refine gF (ay ai) v more λal cl el=>?_;subst el;refine go ?_;refine di (λi:Nat=>more.length - i) (λi=>[(14,iV (i:Int))]) (λi=>[gW fU bm (yP (mZ z (more.take i)).1),E5 b2 (mZ z (more.take i)).2.length (mZ z (more.take i)).2]) (λ_=>[]) (λi=>i<=more.length) 0 (bH _) (hk:=tj) (body:=?_);intro i hi;refine aC ?_ ?_<;>intro h1
 rotate_left
 .obtain rfl:i=more.length:=by omega
  rw[bP];exact fQ
 refine gX (ay ai) (xs:=more) λ_ _ p (vp:ah) hp=>?_;have hpl:=hl p (aU hp);refine gF ai vp p λaq cp ep=>?_;subst ep;have hz:=Dg (more.take i) z;rw[gM]at hz;have hst:mZ z (more.take (i+1))=vT (mZ z (more.take i)) p:=by unfold mZ;rw[bU hp,yU];rfl
 generalize hze:mZ z (more.take i)=y at *;refine go ?_;refine ym p.length ⟨tf,tf,tf⟩ λbb=>?_;have hzb:zeros [Value.int .u8 0] p.length=((iP ((p.take 0).map λx=>IntKind.u8.wrap x) p.length).map (.int .u8)):=by
  show _=(iP [] p.length).map (Value.int .u8);rw[aco];induction p.length with
  |zero=>rfl
  |succ n ih=>rw[yT,kv,<- ih];rfl
 rw[hzb];refine go ?_;refine di (λj:Nat=>p.length - j) (λj=>[(23,iV (j:Int))]) (λj=>[pt bb (.cells ((iP ((p.take j).map λx=>IntKind.u8.wrap x) p.length).map (.int .u8)))]) (λ_=>[]) (λj=>j<=p.length) 0 (bH _) (hk:=tj) (body:=?_);intro j hj;have hjl:((p.take j).map λx=>IntKind.u8.wrap x).length=j:=y4
 refine aC ?_ ?_<;>intro h2
 .refine go ?_;intro _ _ x hx;refine go ?_;refine(cZ rfl rfl (zw (k:=.u8) (m:=IntKind.u8.wrap x) (by kernel_rfl:prog.underlying 3=some (.int .i64)) th rfl rfl)).h ?_;refine go ?_;refine l9 (b:=bb) (o:=0+j*1) (cs:=(iP ((p.take j).map λx=>IntKind.u8.wrap x) p.length).map (.int .u8)) (v:=.int .u8 (IntKind.u8.wrap x)) (cs':=(iP ((p.take (j+1)).map λx=>IntKind.u8.wrap x) p.length).map (.int .u8)) D3 DH ?_;exact eI
 obtain rfl:j=p.length:=tf
 rw[bP]at hjl⊢;rw[ET hjl];refine go ?_;refine arl (b:=bb) (m:=p.length) (xs:=p.map λx=>IntKind.u8.wrap x) hjl (λx hx=>by obtain⟨u,_,rfl⟩:=dM.1 hx;exact(arp u).1) ?_;rw[show(⟨⟨(p.map λx=>IntKind.u8.wrap x).map λx=>UInt8.ofNat x.toNat⟩⟩:ByteArray)=Df p from rfl];refine go ?_;refine Eo vJ (Df p) ?_ (ha:=rfl);rw[adk];cases hb:Hu (Df p) y.1 with
 |true=>
  have hy:vT y p=y:=by unfold vT;rw[if_pos hb]
  rw[hy]at hst;refine go ?_;rw[<- hst];exact ff
 |false=>
  have hy:vT y p=(y.1++[Df p],y.2++[p]):=by unfold vT;rw[if_neg (by rw[hb];simp)]
  rw[hy]at hst;refine go ?_;refine vD vJ (Df p) ?_ (ha:=rfl);rw[adj hb];refine Cj (h:=λc=>?_);generalize hv:gv (ay ai).n c y.2.length=v;refine go ?_;intro b44;refine OL (ay ai) (v:=v) (xs:=y.2) p (.slice aq p.length cp) ⟨tf,tf,tf⟩ (next:=λc2=>?_);refine go ?_;have hl2:(y.2++[p]).length=y.2.length+1:=by rw[fV];rfl
  rw[show Value.slice (some ⟨c2,0,some (ay ai).n⟩) (y.2.length+1) (y.2.length+1)=gv (ay ai).n (some c2) (y.2++[p]).length by rw[hl2];rfl];refine Ay (λc:ak Nat=>[pt b2 (.cells [gv (ay ai).n c (y.2++[p]).length]),ap (ay ai) (gv (ay ai).n c (y.2++[p]).length) (y.2++[p])]) (some c2) (h:=?_);rw[show y.1++[Df p]=(mZ z (more.take (i+1))).1 by rw[hst],show y.2++[p]=(mZ z (more.take (i+1))).2 by rw[hst]];exact ff
def Dh(f:Nat):Bool:=decide (f=1)||decide (f=2)||decide (8<=f)
def kJ(k:aZ)(i:Nat):rW:=((k.lists.zipIdx).take i).foldl (λz q=>if Dh q.2=true then mZ z (mY k.grid.cells.length q.1)else z) (mZ ([],[]) (oN k.grid))
def rX(k:aZ):ae (ae Int):=(kJ k k.lists.length).2
def arq{g:bA}(h:eF g):rR g:=by
 have h1:=zB h.make.wi h.make.he;have h2:=h.make.wi;have h3:=h.make.he;have h4:=h.make.len;have h5:=h.len;exact⟨by unfold lG;omega,by unfold lG;omega,tf,tf⟩
variable{lists:ae (ae Int)}
def adm:(mY n lists).length<=lists.length*lists.length:=VK lists.length
def Qj(h:p∈mY n lists):p.length=n:=by
 unfold mY at h;obtain⟨i,_,hi⟩:=List.mem_flatMap.1 h;unfold Bl at hi;split at hi
 .obtain⟨b,_,rfl⟩:=dM.1 hi;rw[Qh,jH]
 .cases hi
variable{vh vs vr vc vu gh gc vn vl:ah}{k:aZ}
def ars(hK:dz k):
 bG prog (.func 33) [.agg ⟨og k vh vs vr vc vu gh gc vn vl⟩] [] [] (j6 k vh vs vr vc vu gh gc vn vl []) (λc:ak Nat=>gv (ay ai).n c (rX k).length) (λc=>[ap (ay ai) (gv (ay ai).n c (rX k).length) (rX k)]) (λ_=>[]) (λ_=>True):=by
 have hg:eF k.grid:=by rw[hK.grid];exact hK.bV
 have hcl:=hg.len;have hmf:=ade k.grid;refine gB 33 λB w0=>?_;dsimp only[j6];refine gF ai gc k.grid.cells λag cg eg=>?_;subst eg;refine go ?_;intro b1 b2;refine go ?_;refine yu fU (λbm=>?_);refine go ?_;intro b3;refine gC (aq9 (g:=k.grid) (vh:=gh) (vc:=.slice ag k.grid.cells.length cg) (arq hg) hg) λc0 _=>?_;refine uy gD (A:=ap (ay ai) (gv (ay ai).n c0 (oN k.grid).length) (oN k.grid)) (fs:=[aj (ay ai) (gv (ay ai).n c0 (oN k.grid).length) (oN k.grid)]) (h:=?_);refine gF (ay ai) (gv (ay ai).n c0 (oN k.grid).length) (oN k.grid) λam cm em=>?_;rw[em];refine go ?_;refine gK (ay ai) ?_;rw[show pt b2 (.cells [.slice none 0 0])=pt b2 (.cells [gv (ay ai).n none 0])from rfl,show ap (ay ai) (.slice none 0 0) ([]:ae (ae Int))=ap (ay ai) (gv (ay ai).n none 0) []from rfl];refine Ay (λc:ak Nat=>[pt b2 (.cells [gv (ay ai).n c (([],[]):rW).2.length]),ap (ay ai) (gv (ay ai).n c (([],[]):rW).2.length) (([],[]):rW).2]) none (hk:=tj) (h:=?_);have hml:∀p∈oN k.grid,p.length<=1000000:=λp hp=>by rw[adb hp];omega
 rw[show gW fU bm []=gW fU bm (yP (([],[]):rW).1)from rfl];refine fD (Qi (b2:=b2) (b3:=b3) (bm:=bm) (v:=.slice am (oN k.grid).length cm) (e:=0) (z:=([],[])) (more:=oN k.grid) (by show 0+_<=_;omega) hml) (next:=λ_ _=>?_);have h0:mZ ([],[]) (oN k.grid)=kJ k 0:=rfl;rw[h0];have hLL:k.lists.length<=12:=by
  exact qt
 have hrg:∀r∈k.decl.regions,wU (aT k.decl) r.lists:=λr hr=>(hK.typ.zN r hr).1.2;refine go ?_;have hz0:(kJ k 0).2.length<=12+0*4194304:=by
  rw[<- h0];have:=Dg (oN k.grid) ([],[]);simp only[Bw]at this;omega
 refine di (λi:Nat=>k.lists.length - i) (λi=>[(19,iV (i:Int))]) (λi=>[gW fU bm (yP (kJ k i).1),E5 b2 (kJ k i).2.length (kJ k i).2]) (λ_=>[]) (λi=>i<=k.lists.length/\∃u,(kJ k i).2.length<=12+u*4194304/\(i<=1->u=0)/\(i=2->u<=1)/\(3<=i->i<=8->u<=2)/\(9<=i->u+6<=i)) 0 ⟨bH _,0,hz0,tf,tf,tf,tf⟩ (hk:=tj) (body:=?_);rintro i ⟨hi,u,hu1,hu2,hu3,hu4,hu5⟩;refine aC ?_ ?_<;>intro h1
 rotate_left
 .obtain rfl:i=k.lists.length:=by omega
  refine Cj (h:=λc=>?_);rw[show(kJ k k.lists.length).2=rX k from rfl];cases c with
  |none=>
   dsimp only[gv];refine go ?_;exact gQ none trivial (hk:=tj)
  |some c=>
   dsimp only[gv];refine go ?_;exact gQ (some c) trivial (hk:=tj)
 refine gX (ay (ay ai)) (xs:=k.lists) λ_ _ L (vL:ah) hL=>?_;have KZ:L∈mR k.decl:=by rw[<- hK.lists];exact aU hL
 have KT:=Uu hK.bV hrg L KZ;have K3:∀l∈L,mo k.grid.cells.length l/\l.Nodup:=λl hl=>⟨(hK.PU hL).eY l hl,amD hK.bV hrg L KZ l hl⟩
 have Cv:∀l∈L,l.length<=256:=λl hl=>by
  have:=Ui k.grid.cells.length l (K3 l hl).2 (K3 l hl).1;omega
 have hstep:kJ k (i+1)=if Dh i=true then mZ (kJ k i) (mY k.grid.cells.length L)else kJ k i:=by
  have hz:k.lists.zipIdx[i]? =some (L,i):=by rw[Q8,hL];simp
  unfold kJ;rw[bU hz,yU];rfl
 have hsw:=adm (n:=k.grid.cells.length) (lists:=L);have zT:L.length*L.length<=2048*2048:=Nat.mul_le_mul KT KT;refine go ?_;by_cases f1:((i:Int)=1)
 .rw[dQ f1];exact cj
 rw[aW f1];refine go ?_;by_cases f2:((i:Int)=2)
 .rw[dQ f2];exact cj
 rw[aW f2];refine aC ?_ ?_<;>intro f8
 .exact cj
 have hst:kJ k (i+1)=kJ k i:=by rw[hstep,if_neg (by unfold Dh;simp;omega)]
 refine go ?_;rw[<- hst]at hu1⊢;exact aO (i+1) tf ⟨tf,u,tf,tf,tf,tf,tf⟩
def aru(hS:rA k)(hK:dz k):
 bG prog (.func 11) [.agg ⟨og k vh vs vr vc vu gh gc vn vl⟩] [] [] (j6 k vh vs vr vc vu gh gc vn vl []) (λc:ak Nat=>.tuple ⟨[gv (ay ai).n c (rX k).length,iV 0]⟩) (λc=>[ap (ay ai) (gv (ay ai).n c (rX k).length) (rX k)]) (λ_=>[]) (λ_=>True):=by
 refine gB 11 λB w0=>?_;dsimp only[j6];refine go ?_;intro b1;refine gC (Vn (k:=k) hS) λb hb=>?_;cases b with
 |false=>exact absurd (hb.2 hK) tg
 |true=>
 refine gC (ars (k:=k) hK) λc _=>?_;refine go ?_;exact gQ c trivial
def arv(hS:rA k)(hK:¬dz k):
 fC prog 11 [.agg ⟨og k vh vs vr vc vu gh gc vn vl⟩] (j6 k vh vs vr vc vu gh gc vn vl []) (λ_:Unit=>.tuple ⟨[.slice none 0 0,iV 180]⟩) (λ_=>True):=by
 refine gB 11 λB w0=>?_;dsimp only[j6];refine go ?_;intro b1;refine gC (Vn (k:=k) hS) λb hb=>?_;cases b with
 |true=>exact absurd (hb.1 rfl) hK
 |false=>
 exact fQ
def VN(hn:n<=4096):bG prog (.func 40) [iV (n:Int)] [] [] [] (λbm:Nat=>.slice (some ⟨bm,0,some 0⟩) n n) (λbm=>[pt bm (.cells ((upTo' n).map iV))]) (λ_=>[]) (λ_=>True):=by
 refine gB 40 λB w0=>?_;refine go ?_;refine ym n ⟨tf,tf,tf⟩ λbm=>?_;rw[Hf];refine go ?_;refine di (λk=>n - k) (λk:Nat=>[(9,iV (k:Int))]) (λk=>[pt bm (.cells ((iP (upTo' k) n).map iV))]) (λ_=>[]) (λk=>k<=n) 0 (bH _) (hk:=tj) (body:=?_);intro k hk;have hcl:=jH k;refine aC ?_ ?_<;>intro h1
 .refine go ?_;refine l9 (b:=bm) (o:=0+k*1) (cs:=(iP (upTo' k) n).map iV) (v:=iV (k:Int)) (cs':=(iP (upTo' (k+1)) n).map iV) (by rw[gI,pY,<- wm,ES hcl.symm tf,<- vI]) DH ?_;refine go ?_;exact aO (k+1) tf tf
 have hke:k=n:=tf
 subst hke;rw[ET hcl];refine go ?_;exact gQ bm trivial
def VO:qV (pt bm (.cells ((upTo' n).map iV))) [aj ai (.slice (some ⟨bm,0,some 0⟩) n n) (upTo' n)]:=by
 have:=zm (b:=bm) (f:=0) (c:=n) (xs:=upTo' n) (hc:=by rw[jH];exact bI _);rw[jH]at this;exact this
structure adn(n:Nat)(L:List (List Int)):Prop where
 few:L.length<=1024
 all:∀g∈L,bQ n g
def arw{L:ae (ae Int)}(hn:n<=256)(hl:L.length<2^63)(hls:∀g∈L,g.length<2^63):
 fC prog 77 [iV (n:Int),v] [aj (ay ai) v L] (λe:Int=>iV e) (λe=>(e=0↔adn n L)/\((∀g∈L,bQ n g)->e=0\/e=2)):=by
 refine gB 77 λB w0=>?_;refine gF (ay ai) v L λaL cL eL=>?_;subst eL;refine aC ?_ ?_<;>intro h2
 .exfalso;omega
 refine aC ?_ ?_<;>intro h3
 .refine go ?_;exact gQ 2 ⟨⟨(λh=>by cases h),λq=>by have:=q.few;omega⟩,λ_=>.inr rfl⟩
 refine gN L.length 18 (λj=>j<=L.length/\∀g∈L.take j,bQ n g) ⟨bH _,tg⟩ ?_;rintro j ⟨hj,hall⟩;refine aC ?_ ?_<;>intro h4
 .refine gX (ay ai) (xs:=L) λ_ _ g (vg:ah) hg=>?_;have hgm:=aU hg;refine gC (acm (xs:=g) (n:=n) hn (hls g hgm)) λb hb=>?_;cases b with
  |false=>
   refine go ?_;exact gQ 110 ⟨⟨(λh=>by cases h),λq=>by have:=hb.2 (q.all g hgm);cases this⟩,λq=>by have:=hb.2 (q g hgm);cases this⟩
  |true=>
  refine go ?_;refine aO (j+1) tf ⟨tf,λx hx=>?_⟩;rw[bU hg]at hx;rcases eP.1 hx with hx|hx
  .exact hall x hx
  .rw[bS.1 hx];exact hb.1 rfl
 have j5:j=L.length:=tf
 subst j5;rw[bP]at hall;refine go ?_;exact gQ 0 ⟨⟨λ_=>⟨tf,hall⟩,λ_=>rfl⟩,λ_=>.inl rfl⟩
def arx{b1:Nat}(hK:dz k)(x:ae Int)(hx:x.length<2^63):
 ∀v:ah,bG prog (.func 38) [v] [ptr' b1,ptr' b2] [] (aj ai v x::dO b1 0 (og k vh vs vr vc vu gh gc vn vl)::dO b2 0 [iV (k.decl.symbols.length:Int)]::j6 k vh vs vr vc vu gh gc vn vl []) (λb:Bool=>.bool (!b)) (λ_=>[]) (λ_=>[]) (λb=>b=true↔iQ k x (upTo' k.decl.symbols.length)):=by
 intro v;have hm:=hK.typ.lim.s1;have hl:=jH k.decl.symbols.length;refine gB 38 λB w0=>?_;dsimp only[j6];refine gF ai v x λax cx ex=>?_;subst ex;refine gC (VN (n:=k.decl.symbols.length) tf) λbm _=>?_;refine gZ (VO (bm:=bm) (n:=k.decl.symbols.length)) ?_;refine gC (VF (k:=k) (s:=x) (t:=upTo' k.decl.symbols.length) (sc:=.slice ax x.length cx) (st:=.slice (some ⟨bm,0,some 0⟩) k.decl.symbols.length k.decl.symbols.length) hK hx tf) λb hb=>?_;refine go ?_;exact gQ b hb
def ary{Q:IH->Prop}(h:R Q B w0 (ap (ay ai) (.slice (some ⟨b,0,some 0⟩) 1 1) [p]::kl') F)(hk:aB (pt b (.cells [v])) kl kl':=by exact dV)
 (hf:aj ai v p∈F:=by exact ic):R Q B w0 kl F:=λw s=>by
 have hfp:=s.facts _ hf;have s1:=s.gz hk;obtain⟨S,⟨S1,S2,q1,q2,e⟩,h2,h3⟩:=s1.own;refine h w ⟨s.agree,s.le,s.fZ,⟨S,⟨S1,S2,.inr ⟨b,0,0,[v],rfl,.inl rfl,q1.1,q1.2,rfl,λk x hx=>?_⟩,q2,e⟩,h2,h3⟩,s.facts⟩;match k,hx with
 |0,hx=>
  cases hx;refine⟨v,λj u hj=>?_,λf hf=>by rw[bS.1 hf];exact hfp⟩;match j,hj with
  |0,hj=>exact hj
  |j+1,hj=>cases hj
variable{gy l:ae (ae Int)}
def arz{k:Nat}{g:ae Int}(h:oF n gy l k)(hg:g∈gy)(hq:l[k]? =some q)(hno:dA g q∉l):oF n gy (l++[dA g q]) k where
 gp:=h.gp
 nd:=by
  rw[jV];exact⟨h.nd,tg,λa ha b hb e=>hno (by rw[<- bS.1 hb,<- e];exact ha)⟩
 first:=by
  have:=(bJ.1 h.first).1;rw[pX this];exact h.first
 CL i p hp:=by
  have hk:=(bJ.1 hq).1;by_cases hi:i<l.length
  .rw[pX hi]at hp;rcases h.CL i p hp with e|⟨j,g',q',hj,hg',hq',e⟩
   .exact .inl e
   .exact .inr ⟨j,g',q',hj,hg',by rw[pX tf];exact hq',e⟩
  .right;rw[tO tf]at hp;have hp0:i=l.length:=by
    have:=(bJ.1 hp).1;simp at this;omega
   subst hp0;rw[tQ]at hp;cases hp;exact⟨k,g,q,hk,hg,by rw[pX hk];exact hq,rfl⟩
 done i q' hi hq' g' hg':=by
  have hk:=(bJ.1 hq).1;rw[pX tf]at hq';exact uR _ (h.done i q' hi hq' g' hg')
def arA{k:Nat}(h:oF n gy l k)(hq:l[k]? =some q)(hall:∀g∈gy,dA g q∈l):oF n gy l (k+1) where
 gp:=h.gp
 nd:=h.nd
 first:=h.first
 CL:=h.CL
 done i q' hi hq' g hg:=by
  by_cases e:i=k
  .subst e;rw[hq]at hq';cases hq';exact hall g hg
  .exact h.done i q' tf hq' g hg
def VP{k:Nat}(h:oF n gy l k):∀q∈l,bQ n q:=λq hq=>by
 obtain⟨i,hi⟩:=iI hq;exact h.perm i q hi
def arB(h:∀g∈gy,bQ n g):oF n gy [upTo' n] 0 where
 gp:=h
 nd:=tg
 first:=rfl
 CL i p hp:=by
  left;have:=(bJ.1 hp).1;simp at this;omega
 done i q hi:=absurd hi (Dx _)
variable{P:Program}{ty:aF}
def arC(h:P.underlying ty=some (.int .u8))(a b:Int)(d:Nat):dR P (Op.equalIn (d+1) ty (.int .u8 a) (.int .u8 b))=some (decide (a=b)):=by
 unfold Op.equalIn;rw[fO,qC h];simp only[lm,if_true];rfl
def VQ(h:P.underlying ty=some (.int .u8)){v:ah}{xs:Array ah}{o:Nat}(hx:xs[o]? =some v):dR P (part ty xs o)=some v:=by
 have hag:dR P (isAgg ty)=some false:=by
  unfold isAgg;rw[fO,qC h];rfl
 unfold part;rw[fO,hag];show dR P (match xs[o]? with|some v=>pure v|none=>stuck "part: no such cell")=_;rw[hx];rfl
variable{e:aF}
def ado(hs:P.info? e|>.map (·.size)|>(·=some 1)):dR P (sizeOf e)=some 1:=by
 exact hJ
def arD{t:aF}{ys:ae Int}(hu:P.underlying t=some (.array n e))(he:P.underlying e=some (.int .u8))(hs:P.info? e|>.map (·.size)|>(·=some 1))(hx:xs.length=n)(hy:ys.length=n):
 dR P (Op.equalIn (d+2) t (.agg ⟨xs.map (.int .u8)⟩) (.agg ⟨ys.map (.int .u8)⟩))=some (decide (xs=ys)):=by
 have hsz:=ado hs;unfold Op.equalIn;rw[fO,qC hu];simp only[lm];rw[fO,hsz];simp only[lm,pY];rw[Std.Legacy.Range.forIn_eq_forIn_range'];simp only[Std.Legacy.Range.size,Fu,Nat.add_sub_cancel,Nat.div_one];have key:∀(m i:Nat),i+m=n->dR P (do
  let J6 <- forIn (List.range' i m 1) ((none,()):ak Bool×Unit) λi J6=>
   (do let a <- part e ⟨xs.map (.int .u8)⟩ i
       let b <- part e ⟨ys.map (.int .u8)⟩ i
       let r <- Op.equalIn (d+1) e a b
       if(!r)=true then pure (ForInStep.done (some false,()))else pure (ForInStep.yield (none,())))
  match J6.fst with
  |some r=>pure r
  |none=>pure true)=some (decide (xs.drop i=ys.drop i)):=by
  intro m;induction m with
  |zero=>
   intro i hi;rw[Dt tf,Dt tf];rfl
  |succ m ih=>
   intro i hi;have hix:i<xs.length:=tf
   have J7:i<ys.length:=tf
   rw[List.range'_succ,List.forIn_cons];simp only[fO,J5];rw[VQ he (xs:=⟨xs.map (.int .u8)⟩) (o:=i) (v:=.int .u8 xs[i]) (by simp[hix]),lm,VQ he (xs:=⟨ys.map (.int .u8)⟩) (o:=i) (v:=.int .u8 ys[i]) (by simp[J7]),lm,arC he,lm];rw[qp hix,qp J7];have ih:=ih (i+1) tf;simp only[fO,J5]at ih;by_cases hxy:xs[i]=ys[i]
   .rw[dQ hxy];simp only[Bool.not_true,Dn,if_false];show(dR P _).bind _=_;rw[show decide (xs[i]::xs.drop (i+1)=ys[i]::ys.drop (i+1))=decide (xs.drop (i+1)=ys.drop (i+1))from qx.2 (by rw[List.cons.injEq];exact⟨λh=>h.2,λh=>⟨hxy,h⟩⟩)];exact ih
   .rw[aW hxy];simp only[Bool.not_false,if_true];rw[show decide (xs[i]::xs.drop (i+1)=ys[i]::ys.drop (i+1))=false from aW (λh=>hxy (List.cons.inj h).1)];rfl
 have:=key n 0 tf;rw[wh,wh]at this;refine Eq.trans ?_ this;simp only[fO];congr 1;funext s
 cases s.fst<;>rfl
abbrev Key:={t:ae Int//t.length=256}
def Bn(t:Key):ah:=.agg ⟨t.1.map (.int .u8)⟩
def adp:∀zs:ae Int,gJ (zs.map (Value.int .u8))=true
 |[]=>rfl
 |x::zs=>by rw[kv];simp[gJ,cB,Ideal.cellV,adp zs]
def arE{kt:aF}(hu:P.underlying kt=some (.array 256 e))(he:P.underlying e=some (.int .u8))(hs:P.info? e|>.map (·.size)|>(·=some 1)):rM P kt Bn where
 Em a:=by
  refine Tm (by unfold Bn;simp only[cB];exact adp a.1) λb=>?_;show dR P (Instr.checkKey b (9999+1) kt (.agg ⟨a.1.map (.int .u8)⟩))=_;unfold Instr.checkKey;rw[fO,qC hu];simp only[lm];rw[Std.Legacy.Range.forIn_eq_forIn_range'];simp only[Std.Legacy.Range.size,Fu,Nat.add_sub_cancel,Nat.div_one];have hsz:=ado hs;have key:∀(m i:Nat),i+m=256->dR P (forIn (List.range' i m) PUnit.unit λi _=>do
   let n <- sizeOf e
   let v <- part e ⟨a.1.map (Value.int .u8)⟩ (i*n)
   Instr.checkKey b 9999 e v
   pure (ForInStep.yield PUnit.unit))=some PUnit.unit:=by
   intro m;induction m with
   |zero=>intro i _;rfl
   |succ m ih=>
    intro i hi;have hix:i<a.1.length:=by rw[a.2];omega
    rw[List.range'_succ,List.forIn_cons];rw[fO,fO,hsz,lm,fO,pY,VQ he (xs:=⟨a.1.map (.int .u8)⟩) (o:=i) (v:=.int .u8 a.1[i]) (by simp[hix]),lm,fO];have hc:dR P (Instr.checkKey b (9998+1) e (.int .u8 a.1[i]))=some ():=by
     unfold Instr.checkKey;rw[fO,qC he];rfl
    rw[hc];exact ih (i+1) tf
  rw[fO,key 256 0 tf];rfl
 find a aA es h:=Tz hu (λa b=>rfl) (λa b=>by
  have:=arD (d:=9998) (xs:=a.1) (ys:=b.1) hu he hs a.2 b.2;rw[show decide (a=b)=decide (a.1=b.1)from qx.2 ⟨λh=>by rw[h],Subtype.ext⟩];exact this) a aA es h
 same a:=by
  show((⟨a.1.map (Value.int .u8)⟩:Array ah).size==(⟨a.1.map (Value.int .u8)⟩:Array ah).size&&(List.zip (a.1.map (Value.int .u8)) (a.1.map (Value.int .u8))).all λ(x,y)=>Instr.sameBits 9999 x y)=true;rw[eU];refine⟨tg,?_⟩;rw[jN];rintro⟨x,y⟩ hxy;have hz:∀(l:ae ah) (x y:ah),(x,y)∈List.zip l l->x=y:=by
   intro l;induction l with
   |nil=>intro x y h;cases h
   |cons c l ih=>
    intro x y h;rw[List.zip_cons_cons]at h;rcases dB.1 h with h|h
    .cases h;rfl
    .exact ih x y h
  have e:=hz _ x y hxy;subst e;obtain⟨i,_,rfl⟩:=dM.1 (List.of_mem_zip hxy).1;simp[Instr.sameBits]
def arF(p:ae Int)(h:p.length<=256):(iP (p.map λx=>IntKind.u8.wrap x) 256).length=256:=Bc (by rw[bC];exact h)
def mF(p:ae Int):Key:=if h:p.length<=256 then⟨iP (p.map λx=>IntKind.u8.wrap x) 256,arF p h⟩else⟨List.replicate 256 0,Du⟩
def arG(h:p.length<=256):Bn (mF p)=.agg ⟨(iP (p.map λx=>IntKind.u8.wrap x) 256).map (.int .u8)⟩:=by unfold mF Bn;rw[dif_pos h]
def VS:rM prog 115 Bn:=arE (e:=5) th th th
def adq(hn:n<=256)(hp:mo n p)(hq:mo n q)(hl:p.length=n)(hm:q.length=n)(h:mF p=mF q):p=q:=by
 have e:=congrArg Subtype.val h;unfold mF at e;rw[dif_pos tf,dif_pos tf]at e;dsimp only at e;unfold iP at e;have e2:=List.append_inj_left e (by rw[bC,bC,hl,hm]);refine List.ext_getElem tf λi h1 h2=>?_;have e3:=congrArg (·[i]?) e2;simp only[dZ,bY h1,bY h2,om,bz]at e3;have b1:=hp _ (rY h1);have b2:=hq _ (rY h2);have w:∀x:Int,0<=x->x<256->IntKind.u8.wrap x=x:=λx h0 h1=>by
  show x%256=x;omega
 rw[w _ tf tf,w _ tf tf]at e3;exact e3
def adr{α:Type}:∀l:ae α,jE l 0 l=some l
 |[]=>rfl
 |x::l=>by rw[Rl,adr l];rfl
def VT(hl:p.length<=256):dF prog 78 [v] [aj ai v p] (Bn (mF p)):=by
 rw[arG hl];refine gB 78 λB w0=>?_;refine gF ai v p λal cl el=>?_;subst el;refine go ?_;intro b2;refine di (λj:Nat=>p.length - j) (λj=>[(7,iV (j:Int))]) (λj=>[pt b2 (.cells ((iP ((p.take j).map λx=>IntKind.u8.wrap x) 256).map (.int .u8)))]) (λ_=>[]) (λj=>j<=p.length) 0 (bH _) (hk:=Bs) (body:=?_);intro j hj;have hjl:((p.take j).map λx=>IntKind.u8.wrap x).length=j:=y4
 refine aC ?_ ?_<;>intro h2
 .refine go ?_;intro _ _ x hx;refine go ?_;refine(cZ rfl rfl (zw (k:=.u8) (m:=IntKind.u8.wrap x) (by kernel_rfl:prog.underlying 3=some (.int .i64)) th rfl rfl)).h ?_;refine go ?_;refine l9 (b:=b2) (o:=0+j*1) (cs:=(iP ((p.take j).map λx=>IntKind.u8.wrap x) 256).map (.int .u8)) (v:=.int .u8 (IntKind.u8.wrap x)) (cs':=(iP ((p.take (j+1)).map λx=>IntKind.u8.wrap x) 256).map (.int .u8)) D3 DH ?_;exact eI
 obtain rfl:j=p.length:=tf
 rw[bP]at hjl⊢;refine go ?_;generalize hcs:(iP (p.map λx=>IntKind.u8.wrap x) 256).map (Value.int .u8)=cs;have hcl:cs.length=256:=by rw[<- hcs,bC,Bc tf]
 have hrd:jW (kP cs 0) 256=some cs:=by rw[o8,o9,wh,if_pos tf,<- hcl,bP]
 refine(YL (cs:=cs) (c:=cs) rfl rfl rfl .here hrd).h ?_;refine(SX (cs:=cs) (vs:=cs) (c:=cs) rfl rfl rfl (by rw[xO,hcl];rfl) .here (adr cs)).h ?_;refine go ?_;exact fu () (hr:=.sD rfl .here hrd .nil) (hv:=rfl) (hp:=trivial)
open Go.Ideal Kd Canon Go.Shelf Go.Sort
def arH:SWO (ltOf (eT eB)):=by
 have h:=x9 zk;have hz:=h.zero;have hn:=h.neg;have ht:=h.trans;refine⟨λx=>?_,λx y z h1 h2=>?_,λx y z h1 h2=>?_⟩
 .have:=(hz x x).2 rfl;exact aW tf
 .exact dQ (ht x y z (iN h1) (iN h2))
 .have h1:¬eT eB x y<0:=ou h1;have h2:¬eT eB y z<0:=ou h2;refine aW λh3=>?_;by_cases e1:eT eB x y=0
  .rw[(hz x y).1 e1]at h3;exact h2 h3
  by_cases e2:eT eB y z=0
  .rw[<- (hz y z).1 e2]at h3;exact h1 h3
  have h4:=(hn z y).2 tf;have h5:=(hn y x).2 tf;have h6:=ht z y x h4 h5;have h7:=(hn z x).1 h6;omega
def arI:OD prog 79 1 zy:=alC λα _ enc cf g cb blk off cap d w h1 hO eg hcmp hH hblk hsz=>Any.slices_SortFunc Tryz.laysT6 enc h1 cf hO g cb blk off cap d w eg hcmp hH hblk hsz
def arJ:TI prog 79:=λp cap fv w=>AnyF.slices_SortFunc_none {Tryz.laysT6 with} p cap fv w
def ads(f:fI)(h2:(prog.funcs[f]?).map (λf=>f.name== "runtime.NumGoroutine")=some false)(h3:(prog.funcs[f]?).map (λf=>f.body.isSome)=some true):∃fn body,prog.funcs[f]? =some fn/\fn.body=some body/\fn.name≠ "runtime.NumGoroutine" :=by
 cases hfn:prog.funcs[f]? with
 |none=>rw[hfn]at h2;cases h2
 |some fn=>
  rw[hfn]at h2 h3;have h2:(fn.name== "runtime.NumGoroutine")=false:=Option.some.inj h2;have h3:fn.body.isSome=true:=Option.some.inj h3;obtain⟨body,hb⟩:=Fj.1 h3;exact⟨fn,body,rfl,hb,wA⟩
def arK{a:ak Addr}{xs:ae (ae Int)}(hm:m=xs.length)(hl:xs.length<4611686018427387904)(hx:∀x∈xs,x.length<=1000000):
 bG prog (.func 79) [.slice a m m,.func (.func 80) ⟨[]⟩ ⟨[]⟩] [] [ap (ay ai) (.slice a m m) xs] [] (λ_:ae (ae Int)=>.tuple ⟨[]⟩) (λys=>[ap (ay ai) (.slice a m m) ys]) (λ_=>[]) (λys=>ys.Perm xs/\ys.Pairwise λx y=>¬eT eB y x<0):=by
 subst hm;obtain⟨fn,body,h1,h2,h3⟩:=ads 79 th th;obtain⟨gn,OE,g1,g2,g3⟩:=ads 80 th th;exact alA (E:=ay ai) (xs:=xs) (F:=[]) (cap:=[]) VG alD arI arJ h1 h2 h3 g1 g2 g3 rfl tr arH (λx hxm y hym va vb=>ab6 (hx x hxm) (hx y hym)) hl
def Bo(l:ae (ae Int)):ae (Key×ah):=l.map λp=>(mF p,.bool true)
def adt{n:Nat}{p:ae Int}(hn:n<=256)(hp:bQ n p):∀{l:ae (ae Int)},(∀q∈l,bQ n q)->jX false (.bool false) (mF p) (Bo l)=.bool (decide (p∈l))
 |[],_=>rfl
 |c::l,h=>by
  have ih:=adt hn hp (l:=l) (λq hq=>h q (iw _ hq));have hc:=h c (fF ..);unfold jX at ih⊢;have e:dG (mF p) (Bo (c::l))=if mF p=mF c then some (Value.bool true)else dG (mF p) (Bo l):=rfl
  rw[e];by_cases hh:mF p=mF c
  .have:=adq hn hp.eY hc.eY hp.len hc.len hh;rw[if_pos hh,dQ (by rw[this];exact fF ..)];rfl
  .rw[if_neg hh];refine ih.trans ?_;congr 1;exact qx.2 ⟨iw _,λe=>(dB.1 e).elim (λe=>absurd we hh) id⟩
def adu{n:Nat}{p:ae Int}(hn:n<=256)(hp:bQ n p):∀{l:ae (ae Int)},(∀q∈l,bQ n q)->p∉l->upd (mF p) (.bool true) (Bo l)=Bo (l++[p])
 |[],_,_=>rfl
 |c::l,h,hno=>by
  have hc:=h c (fF ..);have h1:mF p≠mF c:=λe=>hno (by rw[adq hn hp.eY hc.eY hp.len hc.len e];exact fF ..);show(if mF p=mF c then _ else(mF c,Value.bool true)::upd (mF p) (.bool true) (Bo l))=_;rw[if_neg h1,adu hn hp (λq hq=>h q (iw _ hq)) (λe=>hno (iw _ e))];rfl
structure arL(n:Nat)(gy:List (List Int))(G:List (List Int))(e:Int):Prop where
 err:e≠0->G=[]/\((∀g∈gy,bQ n g)->e=2)
 ok:e=0->∃l,oF n gy l l.length/\G.Perm l/\l.length<=4096/\G.Pairwise λx y=>¬eT eB y x<0
structure arM where
 v:Value
 G:List (List Int)
 e:Int
def arN(hn:n<=256)(hl:gy.length<2^63)(hls:∀g∈gy,g.length<2^63):
 bG prog (.func 41) [iV (n:Int),v] [] [] [aj (ay ai) v gy] (λy:arM=>.tuple ⟨[y.v,iV y.e]⟩) (λy=>[ap (ay ai) y.v y.G]) (λ_=>[]) (λy=>arL n gy y.G y.e):=by
 refine gB 41 λB w0=>?_;refine gF (ay ai) v gy λag cg eg=>?_;subst eg;refine gC (arw (n:=n) (v:=.slice ag gy.length cg) (L:=gy) hn hl hls) λe he=>?_;refine aC ?_ ?_<;>intro h1
 .refine go ?_;refine gK (ay ai) ?_;exact gQ ⟨.slice none 0 0,[],e⟩ ⟨λ_=>⟨rfl,λh=>(he.2 h).resolve_left h1⟩,λh=>absurd h h1⟩ (hk:=Bs)
 have hz:e=0:=iX.1 h1;subst hz;have hG:adn n gy:=he.1.1 rfl;clear he;refine go ?_;refine ym n ⟨tf,tf,tf⟩ λbm=>?_;rw[Hf];refine go ?_;refine di (λj:Nat=>n - j) (λj=>[(23,iV (j:Int))]) (λj=>[pt bm (.cells ((iP (upTo' j) n).map iV))]) (λ_=>[]) (λj=>j<=n) 0 (bH _) (hk:=tj) (body:=?_);intro j hj;have oG:=jH j;refine aC ?_ ?_<;>intro h5
 .refine go ?_;refine l9 (b:=bm) (o:=0+j*1) (cs:=(iP (upTo' j) n).map iV) (v:=iV (j:Int)) (cs':=(iP (upTo' (j+1)) n).map iV) D0 DH ?_;exact eI
 obtain rfl:j=n:=tf
 rw[ET oG];refine gZ (VO (bm:=bm) (n:=j)) ?_;refine go ?_;intro b32;refine go ?_;refine yu Bn (λbs=>?_);refine gC (VT (v:=.slice (some ⟨bm,0,some 0⟩) j j) (p:=upTo' j) tf) λ_ _=>?_;refine vD VS (mF (upTo' j)) ?_ (ha:=rfl);rw[show upd (mF (upTo' j)) (Value.bool true) []=Bo [upTo' j]from rfl];refine ary (b:=b32) (v:=.slice (some ⟨bm,0,some 0⟩) j j) (p:=upTo' j) ?_;refine go ?_;refine di (λy:Nat×ah×ae (ae Int)=>4097 - y.1) (λy=>[(9,iV (y.1:Int)),(4,y.2.1)]) (λy=>[ap (ay ai) y.2.1 y.2.2,gW Bn bs (Bo y.2.2)]) (λ_=>[]) (λy=>oF j gy y.2.2 y.1/\y.1<=y.2.2.length/\y.2.2.length<=4096) (0,.slice (some ⟨b32,0,some 0⟩) 1 1,[upTo' j]) ⟨arB hG.all,bH _,by show 1<=4096;omega⟩ (hk:=tj) (body:=?_);rintro⟨at_,v4,l⟩ ⟨hC,hat,hlm⟩;dsimp only at hC hat hlm⊢;refine OO (E:=ay ai) (v:=v4) (xs:=l) λa4 e4 hnil=>?_;subst e4;refine aC ?_ ?_<;>intro h2
 rotate_left
 .obtain rfl:at_=l.length:=by omega
  refine gC (arK (a:=a4) (m:=l.length) (xs:=l) rfl tf (λx hx=>by have:=(VP hC x hx).len;omega)) λys hys=>?_;refine go ?_;exact gQ ⟨.slice a4 l.length l.length,ys,0⟩ ⟨λh=>absurd rfl h,λ_=>⟨l,hC,hys.1,hlm,hys.2⟩⟩
 have hq:l[at_]? =some (l[at_]'(tf)):=bY _;generalize hqe:l[at_]'(tf)=q at hq;have VU:=hC.perm at_ q hq;refine go ?_;refine di (λy:Nat×ah×ae (ae Int)=>gy.length - y.1) (λy=>[(45,iV (y.1:Int)),(4,y.2.1)]) (λy=>[ap (ay ai) y.2.1 y.2.2,gW Bn bs (Bo y.2.2)]) (λ_=>[]) (λy=>y.1<=gy.length/\oF j gy y.2.2 at_/\y.2.2[at_]? =some q/\y.2.2.length<=4096/\∀g∈gy.take y.1,dA g q∈y.2.2) (0,.slice a4 l.length l.length,l) ⟨bH _,hC,hq,hlm,λg hg=>by cases hg⟩ (hk:=tj) (body:=?_);clear hC hat hlm hnil h2 hq hqe;rintro⟨i,v4,l⟩ ⟨hi,hC,hq,hlm,hall⟩;dsimp only at hi hC hq hlm hall⊢;have hat:=(bJ.1 hq).1;refine aC ?_ ?_<;>intro h2
 rotate_left
 .obtain rfl:i=gy.length:=by omega
  rw[bP]at hall;refine go ?_;exact aO (at_+1,v4,l) (by show 4097 - (at_+1)<4097 - at_;omega) ⟨arA hC hq hall,by show at_+1<=l.length;omega,hlm⟩
 refine OO (E:=ay ai) (v:=v4) (xs:=l) λa5 e5 hnil=>?_;subst e5;refine gX (ay ai) (xs:=gy) λ_ _ g (vg:ah) hg=>?_;have hgm:=aU hg;have hgp:=hG.all g hgm;refine go ?_;refine Qf at_ q hq λ_ _ vq=>?_;refine gC (apz (a:=g) (b:=q) (n:=j) hgp.len VU.eY (by have:=VU.len;omega)) λbp _=>?_;have hcl:(dA g q).length=q.length:=by unfold dA;rw[bC]
 have Qk:bQ j (dA g q):=hgp.comp VU;refine gZ (zm (b:=bp) (f:=0) (c:=q.length) (xs:=dA g q) (hc:=tf)) ?_;rw[hcl];generalize hpe:dA g q=p at *;refine gC (VT (v:=.slice (some ⟨bp,0,some 0⟩) q.length q.length) (p:=p) (by have:=Qk.len;omega)) λ_ _=>?_;refine go ?_;refine Eo VS (mF p) ?_ (ha:=rfl);rw[adt hn Qk (VP hC)];by_cases hm:p∈l
 .rw[dQ hm];refine go ?_;exact aO (i+1,.slice a5 l.length l.length,l) DA ⟨by show i+1<=_;omega,hC,hq,hlm,λg' hg'=>by
   rw[bU hg]at hg';rcases eP.1 hg' with h|h
   .exact hall g' h
   .rw[bS.1 h,hpe];exact hm⟩
 rw[aW hm];refine aC ?_ ?_<;>intro h3
 .refine go ?_;refine gK (ay ai) ?_;exact gQ ⟨.slice none 0 0,[],2⟩ ⟨λ_=>⟨rfl,λ_=>rfl⟩,λh=>by cases h⟩ (hk:=Bs)
 refine gC (VT (v:=.slice (some ⟨bp,0,some 0⟩) q.length q.length) (p:=p) (by have:=Qk.len;omega)) λ_ _=>?_;refine go ?_;refine vD VS (mF p) ?_ (ha:=rfl);rw[adu hn Qk (VP hC) hm];refine go ?_;intro b67;refine fJ (ay ai) (v:=.slice a5 l.length l.length) (xs:=l) p (.slice (some ⟨bp,0,some 0⟩) q.length q.length) (cs:=[.slice (some ⟨bp,0,some 0⟩) q.length q.length]) tf (next:=λv6=>?_);refine go ?_;have hsn:=arz hC hgm hq (by rw[hpe];exact hm);rw[hpe]at hsn;exact aO (i+1,.slice v6 (l.length+1) (l.length+1),l++[p]) DA ⟨by show i+1<=_;omega,hsn,by show(l++[p])[at_]? =some q;rw[pX hat];exact hq,by show(l++[p]).length<=4096;rw[fV,BD];omega,λg' hg'=>by
  show dA g' q∈l++[p]
  rw[bU hg]at hg';rcases eP.1 hg' with h|h
  .exact uR _ (hall g' h)
  .rw[bS.1 h,hpe];exact xD _ (bS.2 rfl)⟩
