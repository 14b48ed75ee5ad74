/- Part. -/
import Derived.Test.YtignbinlipkmfaaGreatDoorLibOG
import Derived.Test.YtignbinlipkmfaaGreatDoorShelfT
set_option linter.all false
set_option maxRecDepth 10000
set_option maxHeartbeats 4000000
namespace Go.Proofs.YtignbinlipkmfaaGreatDoor
open Tryz (prog)
open Go.Ideal Kd Canon
def aaa:∀xs:ae Int,BL (xs.map (.int .u8))=some (xs.map λx=>UInt8.ofNat x.toNat)\/∃x∈xs,x<0
 |[]=>.inl rfl
 |x::xs=>by
  rcases aaa xs with h|⟨y,hy,h⟩
  .by_cases hx:x<0
   .exact .inr ⟨x,dP ..,hx⟩
   .left;obtain⟨n,rfl⟩:=iQ (by omega:0<=x);rw[fK];show(match (Value.int .u8 (n:Int)),BL (xs.map (.int .u8))with| .int .u8 k,some r=>some (UInt8.ofNat k.toNat::r)|_,_=>none)=_;rw[h];rfl
  .exact .inr ⟨y,dO _ hy,h⟩
variable{n d b m:Nat}{xs:ae Int}{B:ae Nat}{w0:Wd}{kl kl':ae OA}{F:ae aH}
def an7{K:KO}{ds:ae Tmp}{rest:ae bJ}{l:qr}{D:ae Deferred}{pm:aj FrameMode}{ro:aj Nat}{g:aj (Tmp×Bool)}{x:ak}(hm:xs.length=m)(hx0:∀x∈xs,0<=x)(next:R (λh=>aK prog ds rest (act n ((d,.string ⟨⟨xs.map λx=>UInt8.ofNat x.toNat⟩⟩)::l) D pm ro) h K) B w0 kl F)
 (hx:ev l x=.slice (some ⟨b,0,some 0⟩) m m:=by rfl) (hk:aC (pt b (.cells (xs.map (.int .u8)))) kl kl':=by repeat (first|exact aC.here|apply aC.there)) (hn:Nat.blt d n=true:=by rfl) (hg:bK l g=true:=by rfl):
 R (λh=>aK prog ds (⟨⟨some d,g,.FD x⟩,[]⟩::rest) (act n l D pm ro) h K) B w0 kl F:=
 (agn hn hg (v:=.string ⟨⟨xs.map λx=>UInt8.ofNat x.toNat⟩⟩) λw s=>by
   have hr:w.h.iq b 0 m=some (xs.map (.int .u8)):=by
    rw[(s.at_ hk).c.iq,oH,pE,vI,if_pos tb,<- hm];congr 1;exact zV (by rw[aS];exact bz _)
   have hb:BL (xs.map (.int .u8))=some (xs.map λx=>UInt8.ofNat x.toNat):=by
    rcases aaa xs with h|⟨y,hy,h⟩
    .exact h
    .have:=hx0 y hy;omega
   simp only[aF.run,hx,hr,hb]).h next
def Bp(p:ae Int):ByteArray:=⟨⟨(p.map λx=>IntKind.u8.wrap x).map λx=>UInt8.ofNat x.toNat⟩⟩
def wP(ks:ae ByteArray):ae (ByteArray×ah):=ks.map λk=>(k,.bool true)
def Fb(k:ByteArray)(ks:ae ByteArray):Bool:=ks.any λc=>decide (k=c)
def aab{k:ByteArray}:∀{ks:ae ByteArray},Fb k ks=false->upd k (.bool true) (wP ks)=wP (ks++[k])
 |[],_=>rfl
 |c::ks,h=>by
  unfold Fb at h;rw[List.any_cons,SF]at h;have h1:k≠c:=vH h.1;show(if k=c then _ else(c,Value.bool true)::upd k (.bool true) (wP ks))=_;rw[if_neg h1,aab h.2];rfl
def aac{k:ByteArray}:∀{ks:ae ByteArray},jd false (.bool false) k (wP ks)=.bool (Fb k ks)
 |[]=>rfl
 |c::ks=>by
  have ih:=aac (k:=k) (ks:=ks);unfold jd at ih⊢;have e:bZ k (wP (c::ks))=if k=c then some (Value.bool true)else bZ k (wP ks):=rfl
  rw[e];unfold Fb at ih⊢;rw[List.any_cons];by_cases h:k=c
  .rw[if_pos h,fo h,Bool.true_or];rfl
  .rw[if_neg h,di h,Bool.false_or];exact ih
abbrev qo:=ae ByteArray×ae (ae Int)
def uf(z:qo)(p:ae Int):qo:=if Fb (Bp p) z.1=true then z else(z.1++[Bp p],z.2++[p])
def lT(z:qo)(more:ae (ae Int)):qo:=more.foldl uf z
variable{p:ae Int}{z:qo}
def an8:(uf z p).2.length<=z.2.length+1:=by
 unfold uf;split
 .omega
 .rw[dL,qA];exact bz _
def Bq:∀(more:ae (ae Int)) (z:qo),(lT z more).2.length<=z.2.length+more.length
 |[],z=>bz _
 |p::more,z=>by
  have h1:=Bq more (uf z p);have h2:=an8 (z:=z) (p:=p);show(lT (uf z p) more).2.length<=_;rw[lU];omega
variable{q:ae Int}
def an9(h:q∈(uf z p).2):q∈z.2\/q=p:=by
 unfold uf at h;split at h
 .exact .inl h
 .rcases fO.1 h with h|h
  .exact .inl h
  .exact .inr (bF.1 h)
def R3{q:ae Int}:∀(more:ae (ae Int)) (z:qo),q∈(lT z more).2->q∈z.2\/q∈more
 |[],z,h=>.inl h
 |p::more,z,h=>by
  rcases R3 more (uf z p) h with h|h
  .rcases an9 h with h|h
   .exact .inl h
   .exact .inr (by rw[h];exact dP ..)
  .exact .inr (dO _ h)
def aoa(x:Int):0<=IntKind.u8.wrap x/\IntKind.u8.wrap x<256:=by
 show 0<=x%256/\x%256<256;omega
variable{b2 bm:Nat}{v:ah}
def MF{b3:Nat}{e:Int}{more:ae (ae Int)}(hm:z.2.length+more.length<=40000000)(hl:∀p∈more,p.length<=1000000):
 bA prog (.func 63) [v,iV e] [ptr' b3,ptr' b2] [pt b3 (.cells [.map (some bm)]),fw eP bm (wP z.1),Dc b2 z.2.length z.2] [aA (az ai) v more] (λ_:Unit=>.tuple ⟨[]⟩)
  (λ_=>[pt b3 (.cells [.map (some bm)]),fw eP bm (wP (lT z more).1),Dc b2 (lT z more).2.length (lT z more).2]) (λ_=>[]) (λ_=>True):=by
 refine gB 63 λB w0=>?_;refine gF (az ai) v more λal cl el=>?_;subst el;refine go ?_;refine dS (λi:Nat=>more.length - i) (λi=>[(14,iV (i:Int))]) (λi=>[fw eP bm (wP (lT z (more.take i)).1),Dc b2 (lT z (more.take i)).2.length (lT z (more.take i)).2]) (λ_=>[]) (λi=>i<=more.length) 0 (bS _) (hk:=qn) (body:=?_);intro i hi;refine aP ?_ ?_<;>intro h1
 rotate_left
 .obtain rfl:i=more.length:=by omega
  rw[eH];exact fH
 refine gX (az ai) (xs:=more) λ_ _ p (vp:ah) hp=>?_;have hpl:=hl p (aV hp);refine gF ai vp p λaq cp ep=>?_;subst ep;have hz:=Bq (more.take i) z;rw[gq]at hz;have hst:lT z (more.take (i+1))=uf (lT z (more.take i)) p:=by unfold lT;rw[gz hp,wX];rfl
 generalize hze:lT z (more.take i)=y at *;refine go ?_;refine ww p.length ⟨p0,p0,p0⟩ λbb=>?_;have hzb:zeros [Value.int .u8 0] p.length=((gW ((p.take 0).map λx=>IntKind.u8.wrap x) p.length).map (.int .u8)):=by
  show _=(gW [] p.length).map (Value.int .u8);rw[Zh];induction p.length with
  |zero=>rfl
  |succ n ih=>rw[wV,fK,<- ih];rfl
 rw[hzb];refine go ?_;refine dS (λj:Nat=>p.length - j) (λj=>[(23,iV (j:Int))]) (λj=>[pt bb (.cells ((gW ((p.take j).map λx=>IntKind.u8.wrap x) p.length).map (.int .u8)))]) (λ_=>[]) (λj=>j<=p.length) 0 (bS _) (hk:=qn) (body:=?_);intro j hj;have hjl:((p.take j).map λx=>IntKind.u8.wrap x).length=j:=tW
 refine aP ?_ ?_<;>intro h2
 .refine go ?_;intro _ _ x hx;refine go ?_;refine(bV rfl rfl (uM (k:=.u8) (m:=IntKind.u8.wrap x) (by kernel_rfl:prog.underlying 3=some (.int .i64)) qk rfl rfl)).h ?_;refine go ?_;refine jG (b:=bb) (o:=0+j*1) (cs:=(gW ((p.take j).map λx=>IntKind.u8.wrap x) p.length).map (.int .u8)) (v:=.int .u8 (IntKind.u8.wrap x)) (cs':=(gW ((p.take (j+1)).map λx=>IntKind.u8.wrap x) p.length).map (.int .u8)) B0 A0 ?_;exact cR
 obtain rfl:j=p.length:=p0
 rw[eH]at hjl⊢;rw[CY hjl];refine go ?_;refine an7 (b:=bb) (m:=p.length) (xs:=p.map λx=>IntKind.u8.wrap x) hjl (λx hx=>by obtain⟨u,_,rfl⟩:=cZ.1 hx;exact(aoa u).1) ?_;rw[show(⟨⟨(p.map λx=>IntKind.u8.wrap x).map λx=>UInt8.ofNat x.toNat⟩⟩:ByteArray)=Bp p from rfl];refine go ?_;refine Cw tQ (Bp p) ?_ (ha:=rfl);rw[aac];cases hb:Fb (Bp p) y.1 with
 |true=>
  have hy:uf y p=y:=by unfold uf;rw[if_pos hb]
  rw[hy]at hst;refine go ?_;rw[<- hst];exact dy
 |false=>
  have hy:uf y p=(y.1++[Bp p],y.2++[p]):=by unfold uf;rw[if_neg (by rw[hb];simp)]
  rw[hy]at hst;refine go ?_;refine tu tQ (Bp p) ?_ (ha:=rfl);rw[aab hb];refine AA (h:=λc=>?_);generalize hv:gv (az ai).n c y.2.length=v;refine go ?_;intro b44;refine K3 (az ai) (v:=v) (xs:=y.2) p (.slice aq p.length cp) ⟨p0,p0,p0⟩ (next:=λc2=>?_);refine go ?_;have hl2:(y.2++[p]).length=y.2.length+1:=by rw[dL];rfl
  rw[show Value.slice (some ⟨c2,0,some (az ai).n⟩) (y.2.length+1) (y.2.length+1)=gv (az ai).n (some c2) (y.2++[p]).length by rw[hl2];rfl];refine yY (λc:aj Nat=>[pt b2 (.cells [gv (az ai).n c (y.2++[p]).length]),ap (az ai) (gv (az ai).n c (y.2++[p]).length) (y.2++[p])]) (some c2) (h:=?_);rw[show y.1++[Bp p]=(lT z (more.take (i+1))).1 by rw[hst],show y.2++[p]=(lT z (more.take (i+1))).2 by rw[hst]];exact dy
def Br(f:Nat):Bool:=decide (f=1)||decide (f=2)||decide (8<=f)
def jQ(k:aZ)(i:Nat):qo:=((k.lists.zipIdx).take i).foldl (λz q=>if Br q.2=true then lT z (lS k.grid.cells.length q.1)else z) (lT ([],[]) (nA k.grid))
def qp(k:aZ):ae (ae Int):=(jQ k k.lists.length).2
def aob{g:bM}(h:fT g):xQ g:=by
 have h1:=CG h.make.wi h.make.he;have h2:=h.make.wi;have h3:=h.make.he;have h4:=h.make.len;have h5:=h.len;exact⟨by unfold kV;omega,by unfold kV;omega,p0,p0⟩
variable{lists:ae (ae Int)}
def aae:(lS n lists).length<=lists.length*lists.length:=RY lists.length
def MG(h:p∈lS n lists):p.length=n:=by
 unfold lS at h;obtain⟨i,_,hi⟩:=List.mem_flatMap.1 h;unfold zB at hi;split at hi
 .obtain⟨b,_,rfl⟩:=cZ.1 hi;rw[ME,jL]
 .cases hi
variable{vh vs vr vc vu gh gc vn vl:ah}{k:aZ}
def aoc(hK:bW k):
 bA prog (.func 33) [.agg ⟨oW k vh vs vr vc vu gh gc vn vl⟩] [] [] (jO k vh vs vr vc vu gh gc vn vl []) (λc:aj Nat=>gv (az ai).n c (qp k).length) (λc=>[ap (az ai) (gv (az ai).n c (qp k).length) (qp k)]) (λ_=>[]) (λ_=>True):=by
 have hg:fT k.grid:=by rw[hK.grid];exact hK.bK
 have hcl:=hg.len;have hmf:=Z7 k.grid;refine gB 33 λB w0=>?_;dsimp only[jO];refine gF ai gc k.grid.cells λag cg eg=>?_;subst eg;refine go ?_;intro b1 b2;refine go ?_;refine wz eP (λbm=>?_);refine go ?_;intro b3;refine gC (anY (g:=k.grid) (vh:=gh) (vc:=.slice ag k.grid.cells.length cg) (aob hg) hg) λc0 _=>?_;refine qN jk (A:=ap (az ai) (gv (az ai).n c0 (nA k.grid).length) (nA k.grid)) (fs:=[aA (az ai) (gv (az ai).n c0 (nA k.grid).length) (nA k.grid)]) (h:=?_);refine gF (az ai) (gv (az ai).n c0 (nA k.grid).length) (nA k.grid) λam cm em=>?_;rw[em];refine go ?_;refine mF (az ai) ?_;rw[show pt b2 (.cells [.slice none 0 0])=pt b2 (.cells [gv (az ai).n none 0])from rfl,show ap (az ai) (.slice none 0 0) ([]:ae (ae Int))=ap (az ai) (gv (az ai).n none 0) []from rfl];refine yY (λc:aj Nat=>[pt b2 (.cells [gv (az ai).n c (([],[]):qo).2.length]),ap (az ai) (gv (az ai).n c (([],[]):qo).2.length) (([],[]):qo).2]) none (hk:=qn) (h:=?_);have hml:∀p∈nA k.grid,p.length<=1000000:=λp hp=>by rw[Z6 hp];omega
 rw[show fw eP bm []=fw eP bm (wP (([],[]):qo).1)from rfl];refine jY (MF (b2:=b2) (b3:=b3) (bm:=bm) (v:=.slice am (nA k.grid).length cm) (e:=0) (z:=([],[])) (more:=nA k.grid) (by show 0+_<=_;omega) hml) (next:=λ_ _=>?_);have h0:lT ([],[]) (nA k.grid)=jQ k 0:=rfl;rw[h0];have hLL:k.lists.length<=12:=by
  exact nw
 have hrg:∀r∈k.decl.regions,wD (bI k.decl) r.lists:=λr hr=>(hK.typ.CR r hr).1.2;refine go ?_;have hz0:(jQ k 0).2.length<=12+0*4194304:=by
  rw[<- h0];have:=Bq (nA k.grid) ([],[]);simp only[wU]at this;omega
 refine dS (λi:Nat=>k.lists.length - i) (λi=>[(19,iV (i:Int))]) (λi=>[fw eP bm (wP (jQ k i).1),Dc b2 (jQ k i).2.length (jQ k i).2]) (λ_=>[]) (λi=>i<=k.lists.length/\∃u,(jQ k i).2.length<=12+u*4194304/\(i<=1->u=0)/\(i=2->u<=1)/\(3<=i->i<=8->u<=2)/\(9<=i->u+6<=i)) 0 ⟨bS _,0,hz0,p0,p0,p0,p0⟩ (hk:=qn) (body:=?_);rintro i ⟨hi,u,hu1,hu2,hu3,hu4,hu5⟩;refine aP ?_ ?_<;>intro h1
 rotate_left
 .obtain rfl:i=k.lists.length:=by omega
  refine AA (h:=λc=>?_);rw[show(jQ k k.lists.length).2=qp k from rfl];cases c with
  |none=>
   dsimp only[gv];refine go ?_;exact gQ none trivial (hk:=qn)
  |some c=>
   dsimp only[gv];refine go ?_;exact gQ (some c) trivial (hk:=qn)
 refine gX (az (az ai)) (xs:=k.lists) λ_ _ L (vL:ah) hL=>?_;have Iz:L∈mG k.decl:=by rw[<- hK.lists];exact aV hL
 have Iq:=Qm hK.bK hrg L Iz;have IA:∀l∈L,kP k.grid.cells.length l/\l.Nodup:=λl hl=>⟨(hK.Mf hL).dN l hl,aje hK.bK hrg L Iz l hl⟩
 have AV:∀l∈L,l.length<=256:=λl hl=>by
  have:=Qe k.grid.cells.length l (IA l hl).2 (IA l hl).1;omega
 have hstep:jQ k (i+1)=if Br i=true then lT (jQ k i) (lS k.grid.cells.length L)else jQ k i:=by
  have hz:k.lists.zipIdx[i]? =some (L,i):=by rw[SH,hL];simp
  unfold jQ;rw[gz hz,wX];rfl
 have hsw:=aae (n:=k.grid.cells.length) (lists:=L);have hsq:L.length*L.length<=2048*2048:=Nat.mul_le_mul Iq Iq;refine go ?_;by_cases f1:((i:Int)=1)
 .rw[fo f1];exact bj
 rw[di f1];refine go ?_;by_cases f2:((i:Int)=2)
 .rw[fo f2];exact bj
 rw[di f2];refine aP ?_ ?_<;>intro f8
 .exact bj
 have hst:jQ k (i+1)=jQ k i:=by rw[hstep,if_neg (by unfold Br;simp;omega)]
 refine go ?_;rw[<- hst]at hu1⊢;exact aY (i+1) p0 ⟨p0,u,p0,p0,p0,p0,p0⟩
def aoe(hS:tX k)(hK:bW k):
 bA prog (.func 11) [.agg ⟨oW k vh vs vr vc vu gh gc vn vl⟩] [] [] (jO k vh vs vr vc vu gh gc vn vl []) (λc:aj Nat=>.tuple ⟨[gv (az ai).n c (qp k).length,iV 0]⟩) (λc=>[ap (az ai) (gv (az ai).n c (qp k).length) (qp k)]) (λ_=>[]) (λ_=>True):=by
 refine gB 11 λB w0=>?_;dsimp only[jO];refine go ?_;intro b1;refine gC (Ro (k:=k) hS) λb hb=>?_;cases b with
 |false=>exact absurd (hb.2 hK) qe
 |true=>
 refine gC (aoc (k:=k) hK) λc _=>?_;refine go ?_;exact gQ c trivial
def aof(hS:tX k)(hK:¬bW k):
 fC prog 11 [.agg ⟨oW k vh vs vr vc vu gh gc vn vl⟩] (jO k vh vs vr vc vu gh gc vn vl []) (λ_:Unit=>.tuple ⟨[.slice none 0 0,iV 180]⟩) (λ_=>True):=by
 refine gB 11 λB w0=>?_;dsimp only[jO];refine go ?_;intro b1;refine gC (Ro (k:=k) hS) λb hb=>?_;cases b with
 |true=>exact absurd (hb.1 rfl) hK
 |false=>
 exact fH
def R4(hn:n<=4096):bA prog (.func 40) [iV (n:Int)] [] [] [] (λbm:Nat=>.slice (some ⟨bm,0,some 0⟩) n n) (λbm=>[pt bm (.cells ((upTo' n).map iV))]) (λ_=>[]) (λ_=>True):=by
 refine gB 40 λB w0=>?_;refine go ?_;refine ww n ⟨p0,p0,p0⟩ λbm=>?_;rw[EX];refine go ?_;refine dS (λk=>n - k) (λk:Nat=>[(9,iV (k:Int))]) (λk=>[pt bm (.cells ((gW (upTo' k) n).map iV))]) (λ_=>[]) (λk=>k<=n) 0 (bS _) (hk:=qn) (body:=?_);intro k hk;have hcl:=jL k;refine aP ?_ ?_<;>intro h1
 .refine go ?_;refine jG (b:=bm) (o:=0+k*1) (cs:=(gW (upTo' k) n).map iV) (v:=iV (k:Int)) (cs':=(gW (upTo' (k+1)) n).map iV) (by rw[eB,nQ,<- ul,CW hcl.symm p0,<- EH]) A0 ?_;refine go ?_;exact aY (k+1) p0 p0
 have hke:k=n:=p0
 subst hke;rw[CY hcl];refine go ?_;exact gQ bm trivial
def R5:pM (pt bm (.cells ((upTo' n).map iV))) [aA ai (.slice (some ⟨bm,0,some 0⟩) n n) (upTo' n)]:=by
 have:=Av (b:=bm) (f:=0) (c:=n) (xs:=upTo' n) (hc:=by rw[jL];exact bz _);rw[jL]at this;exact this
structure aaf(n:Nat)(L:List (List Int)):Prop where
 few:L.length<=1024
 all:∀g∈L,bC n g
def aog{L:ae (ae Int)}(hn:n<=256)(hl:L.length<2^63)(hls:∀g∈L,g.length<2^63):
 fC prog 77 [iV (n:Int),v] [aA (az ai) v L] (λe:Int=>iV e) (λe=>(e=0↔aaf n L)/\((∀g∈L,bC n g)->e=0\/e=2)):=by
 refine gB 77 λB w0=>?_;refine gF (az ai) v L λaL cL eL=>?_;subst eL;refine aP ?_ ?_<;>intro h2
 .exfalso;omega
 refine aP ?_ ?_<;>intro h3
 .refine go ?_;exact gQ 2 ⟨⟨(λh=>by cases h),λq=>by have:=q.few;omega⟩,λ_=>.inr rfl⟩
 refine gN L.length 18 (λj=>j<=L.length/\∀g∈L.take j,bC n g) ⟨bS _,qe⟩ ?_;rintro j ⟨hj,hall⟩;refine aP ?_ ?_<;>intro h4
 .refine gX (az ai) (xs:=L) λ_ _ g (vg:ah) hg=>?_;have hgm:=aV hg;refine gC (Zg (xs:=g) (n:=n) hn (hls g hgm)) λb hb=>?_;cases b with
  |false=>
   refine go ?_;exact gQ 110 ⟨⟨(λh=>by cases h),λq=>by have:=hb.2 (q.all g hgm);cases this⟩,λq=>by have:=hb.2 (q g hgm);cases this⟩
  |true=>
  refine go ?_;refine aY (j+1) p0 ⟨p0,λx hx=>?_⟩;rw[gz hg]at hx;rcases fO.1 hx with hx|hx
  .exact hall x hx
  .rw[bF.1 hx];exact hb.1 rfl
 have om:j=L.length:=p0
 subst om;rw[eH]at hall;refine go ?_;exact gQ 0 ⟨⟨λ_=>⟨p0,hall⟩,λ_=>rfl⟩,λ_=>.inl rfl⟩
def aoh{b1:Nat}(hK:bW k)(x:ae Int)(hx:x.length<2^63):
 ∀v:ah,bA prog (.func 38) [v] [ptr' b1,ptr' b2] [] (aA ai v x::dx b1 0 (oW k vh vs vr vc vu gh gc vn vl)::dx b2 0 [iV (k.decl.symbols.length:Int)]::jO k vh vs vr vc vu gh gc vn vl []) (λb:Bool=>.bool (!b)) (λ_=>[]) (λ_=>[]) (λb=>b=true↔gY k x (upTo' k.decl.symbols.length)):=by
 intro v;have hm:=hK.typ.lim.s1;have hl:=jL k.decl.symbols.length;refine gB 38 λB w0=>?_;dsimp only[jO];refine gF ai v x λax cx ex=>?_;subst ex;refine gC (R4 (n:=k.decl.symbols.length) p0) λbm _=>?_;refine gZ (R5 (bm:=bm) (n:=k.decl.symbols.length)) ?_;refine gC (RP (k:=k) (s:=x) (t:=upTo' k.decl.symbols.length) (sc:=.slice ax x.length cx) (st:=.slice (some ⟨bm,0,some 0⟩) k.decl.symbols.length k.decl.symbols.length) hK hx p0) λb hb=>?_;refine go ?_;exact gQ b hb
def aoi{Q:IH->Prop}(h:R Q B w0 (ap (az ai) (.slice (some ⟨b,0,some 0⟩) 1 1) [p]::kl') F)(hk:aC (pt b (.cells [v])) kl kl':=by exact dK)
 (hf:aA ai v p∈F:=by exact gM):R Q B w0 kl F:=λw s=>by
 have hfp:=s.facts _ hf;have s1:=s.fu hk;obtain⟨S,⟨S1,S2,q1,q2,e⟩,h2,h3⟩:=s1.own;refine h w ⟨s.agree,s.le,s.eT,⟨S,⟨S1,S2,.inr ⟨b,0,0,[v],rfl,.inl rfl,q1.1,q1.2,rfl,λk x hx=>?_⟩,q2,e⟩,h2,h3⟩,s.facts⟩;match k,hx with
 |0,hx=>
  cases hx;refine⟨v,λj u hj=>?_,λf hf=>by rw[bF.1 hf];exact hfp⟩;match j,hj with
  |0,hj=>exact hj
  |j+1,hj=>cases hj
variable{fB l:ae (ae Int)}
def aoj{k:Nat}{g:ae Int}(h:oh n fB l k)(hg:g∈fB)(hq:l[k]? =some q)(hno:cz g q∉l):oh n fB (l++[cz g q]) k where
 gp:=h.gp
 nd:=by
  rw[iT];exact⟨h.nd,qe,λa ha b hb e=>hno (by rw[<- bF.1 hb,<- e];exact ha)⟩
 first:=by
  have:=(aT.1 h.first).1;rw[iY this];exact h.first
 Bd i p hp:=by
  have hk:=(aT.1 hq).1;by_cases hi:i<l.length
  .rw[iY hi]at hp;rcases h.Bd i p hp with e|⟨j,g',q',hj,hg',hq',e⟩
   .exact .inl e
   .exact .inr ⟨j,g',q',hj,hg',by rw[iY p0];exact hq',e⟩
  .right;rw[jm p0]at hp;have hp0:i=l.length:=by
    have:=(aT.1 hp).1;simp at this;omega
   subst hp0;rw[mM]at hp;cases hp;exact⟨k,g,q,hk,hg,by rw[iY hk];exact hq,rfl⟩
 done i q' hi hq' g' hg':=by
  have hk:=(aT.1 hq).1;rw[iY p0]at hq';exact jS _ (h.done i q' hi hq' g' hg')
def aok{k:Nat}(h:oh n fB l k)(hq:l[k]? =some q)(hall:∀g∈fB,cz g q∈l):oh n fB l (k+1) where
 gp:=h.gp
 nd:=h.nd
 first:=h.first
 Bd:=h.Bd
 done i q' hi hq' g hg:=by
  by_cases e:i=k
  .subst e;rw[hq]at hq';cases hq';exact hall g hg
  .exact h.done i q' p0 hq' g hg
def R6{k:Nat}(h:oh n fB l k):∀q∈l,bC n q:=λq hq=>by
 obtain⟨i,hi⟩:=ik hq;exact h.perm i q hi
def aol(h:∀g∈fB,bC n g):oh n fB [upTo' n] 0 where
 gp:=h
 nd:=qe
 first:=rfl
 Bd i p hp:=by
  left;have:=(aT.1 hp).1;simp at this;omega
 done i q hi:=absurd hi (zK _)
variable{P:Program}{ty:aB}
def aom(h:P.underlying ty=some (.int .u8))(a b:Int)(d:Nat):bX P (Op.equalIn (d+1) ty (.int .u8 a) (.int .u8 b))=some (decide (a=b)):=by
 exact oA
def R7(h:P.underlying ty=some (.int .u8)){v:ah}{xs:Array ah}{o:Nat}(hx:xs[o]? =some v):bX P (part ty xs o)=some v:=by
 have hag:bX P (isAgg ty)=some false:=by
  unfold isAgg;rw[eF,oL h];rfl
 exact gA
variable{e:aB}
def aag(hs:P.info? e|>.map (·.size)|>(·=some 1)):bX P (sizeOf e)=some 1:=by
 exact eK
def aon{t:aB}{ys:ae Int}(hu:P.underlying t=some (.array n e))(he:P.underlying e=some (.int .u8))(hs:P.info? e|>.map (·.size)|>(·=some 1))(hx:xs.length=n)(hy:ys.length=n):
 bX P (Op.equalIn (d+2) t (.agg ⟨xs.map (.int .u8)⟩) (.agg ⟨ys.map (.int .u8)⟩))=some (decide (xs=ys)):=by
 have hsz:=aag hs;unfold Op.equalIn;rw[eF,oL hu];simp only[gy];rw[eF,hsz];simp only[gy,nQ];rw[Std.Legacy.Range.forIn_eq_forIn_range'];simp only[Std.Legacy.Range.size,yg,Nat.add_sub_cancel,Nat.div_one];have key:∀(m i:Nat),i+m=n->bX P (do
  let G9 <- forIn (List.range' i m 1) ((none,()):aj Bool×Unit) λi G9=>
   (do let a <- part e ⟨xs.map (.int .u8)⟩ i
       let b <- part e ⟨ys.map (.int .u8)⟩ i
       let r <- Op.equalIn (d+1) e a b
       if(!r)=true then pure (ForInStep.done (some false,()))else pure (ForInStep.yield (none,())))
  match G9.fst with
  |some r=>pure r
  |none=>pure true)=some (decide (xs.drop i=ys.drop i)):=by
  intro m;induction m with
  |zero=>
   intro i hi;rw[BB p0,BB p0];rfl
  |succ m ih=>
   intro i hi;have hix:i<xs.length:=p0
   have He:i<ys.length:=p0
   rw[List.range'_succ,List.forIn_cons];simp only[eF,G8];rw[R7 he (xs:=⟨xs.map (.int .u8)⟩) (o:=i) (v:=.int .u8 xs[i]) (by simp[hix]),gy,R7 he (xs:=⟨ys.map (.int .u8)⟩) (o:=i) (v:=.int .u8 ys[i]) (by simp[He]),gy,aom he,gy];exact cF
 have:=key n 0 p0;rw[vI,vI]at this;refine Eq.trans ?_ this;simp only[eF];congr 1;funext s
 cases s.fst<;>rfl
abbrev Key:={t:ae Int//t.length=256}
def zC(t:Key):ah:=.agg ⟨t.1.map (.int .u8)⟩
def aah:∀zs:ae Int,gD (zs.map (Value.int .u8))=true
 |[]=>rfl
 |x::zs=>by rw[fK];simp[gD,bR,Ideal.cellV,aah zs]
def aoo{kt:aB}(hu:P.underlying kt=some (.array 256 e))(he:P.underlying e=some (.int .u8))(hs:P.info? e|>.map (·.size)|>(·=some 1)):qf P kt zC where
 Cu a:=by
  refine Pk (by unfold zC;simp only[bR];exact aah a.1) λb=>?_;show bX P (Instr.checkKey b (9999+1) kt (.agg ⟨a.1.map (.int .u8)⟩))=_;unfold Instr.checkKey;rw[eF,oL hu];simp only[gy];rw[Std.Legacy.Range.forIn_eq_forIn_range'];simp only[Std.Legacy.Range.size,yg,Nat.add_sub_cancel,Nat.div_one];have hsz:=aag hs;have key:∀(m i:Nat),i+m=256->bX P (forIn (List.range' i m) PUnit.unit λi _=>do
   let n <- sizeOf e
   let v <- part e ⟨a.1.map (Value.int .u8)⟩ (i*n)
   Instr.checkKey b 9999 e v
   pure (ForInStep.yield PUnit.unit))=some PUnit.unit:=by
   intro m;induction m with
   |zero=>intro i _;rfl
   |succ m ih=>
    intro i hi;have hix:i<a.1.length:=by rw[a.2];omega
    rw[List.range'_succ,List.forIn_cons];rw[eF,eF,hsz,gy,eF,nQ,R7 he (xs:=⟨a.1.map (.int .u8)⟩) (o:=i) (v:=.int .u8 a.1[i]) (by simp[hix]),gy,eF];have hc:bX P (Instr.checkKey b (9998+1) e (.int .u8 a.1[i]))=some ():=by
     unfold Instr.checkKey;rw[eF,oL he];rfl
    rw[hc];exact ih (i+1) p0
  rw[eF,key 256 0 p0];rfl
 find a ay es h:=Px hu (λa b=>rfl) (λa b=>by
  have:=aon (d:=9998) (xs:=a.1) (ys:=b.1) hu he hs a.2 b.2;rw[show decide (a=b)=decide (a.1=b.1)from sP.2 ⟨λh=>by rw[h],Subtype.ext⟩];exact this) a ay es h
 same a:=by
  show((⟨a.1.map (Value.int .u8)⟩:Array ah).size==(⟨a.1.map (Value.int .u8)⟩:Array ah).size&&(List.zip (a.1.map (Value.int .u8)) (a.1.map (Value.int .u8))).all λ(x,y)=>Instr.sameBits 9999 x y)=true;rw[dG];refine⟨qe,?_⟩;rw[iE];rintro⟨x,y⟩ hxy;have hz:∀(l:ae ah) (x y:ah),(x,y)∈List.zip l l->x=y:=by
   intro l;induction l with
   |nil=>intro x y h;cases h
   |cons c l ih=>
    intro x y h;rw[List.zip_cons_cons]at h;rcases bN.1 h with h|h
    .cases h;rfl
    .exact ih x y h
  have e:=hz _ x y hxy;subst e;obtain⟨i,_,rfl⟩:=cZ.1 (List.of_mem_zip hxy).1;simp[Instr.sameBits]
def aop(p:ae Int)(h:p.length<=256):(gW (p.map λx=>IntKind.u8.wrap x) 256).length=256:=zo (by rw[aS];exact h)
def lc(p:ae Int):Key:=if h:p.length<=256 then⟨gW (p.map λx=>IntKind.u8.wrap x) 256,aop p h⟩else⟨List.replicate 256 0,zS⟩
def aoq(h:p.length<=256):zC (lc p)=.agg ⟨(gW (p.map λx=>IntKind.u8.wrap x) 256).map (.int .u8)⟩:=by unfold lc zC;rw[dif_pos h]
def R8:qf prog 115 zC:=aoo (e:=5) qk qk qk
def aai(hn:n<=256)(hp:kP n p)(hq:kP n q)(hl:p.length=n)(hm:q.length=n)(h:lc p=lc q):p=q:=by
 have e:=congrArg Subtype.val h;unfold lc at e;rw[dif_pos p0,dif_pos p0]at e;dsimp only at e;unfold gW at e;have e2:=List.append_inj_left e (by rw[aS,aS,hl,hm]);refine List.ext_getElem p0 λi h1 h2=>?_;have e3:=congrArg (·[i]?) e2;simp only[bU,bH h1,bH h2,kD,aI]at e3;have b1:=hp _ (wR h1);have b2:=hq _ (wR h2);have w:∀x:Int,0<=x->x<256->IntKind.u8.wrap x=x:=λx h0 h1=>by
  show x%256=x;omega
 rw[w _ p0 p0,w _ p0 p0]at e3;exact e3
def aaj{α:Type}:∀l:ae α,iZ l 0 l=some l
 |[]=>rfl
 |x::l=>by rw[Jd,aaj l];rfl
def R9(hl:p.length<=256):eU prog 78 [v] [aA ai v p] (zC (lc p)):=by
 rw[aoq hl];refine gB 78 λB w0=>?_;refine gF ai v p λal cl el=>?_;subst el;refine go ?_;intro b2;refine dS (λj:Nat=>p.length - j) (λj=>[(7,iV (j:Int))]) (λj=>[pt b2 (.cells ((gW ((p.take j).map λx=>IntKind.u8.wrap x) 256).map (.int .u8)))]) (λ_=>[]) (λj=>j<=p.length) 0 (bS _) (hk:=w8) (body:=?_);intro j hj;have hjl:((p.take j).map λx=>IntKind.u8.wrap x).length=j:=tW
 refine aP ?_ ?_<;>intro h2
 .refine go ?_;intro _ _ x hx;refine go ?_;refine(bV rfl rfl (uM (k:=.u8) (m:=IntKind.u8.wrap x) (by kernel_rfl:prog.underlying 3=some (.int .i64)) qk rfl rfl)).h ?_;refine go ?_;refine jG (b:=b2) (o:=0+j*1) (cs:=(gW ((p.take j).map λx=>IntKind.u8.wrap x) 256).map (.int .u8)) (v:=.int .u8 (IntKind.u8.wrap x)) (cs':=(gW ((p.take (j+1)).map λx=>IntKind.u8.wrap x) 256).map (.int .u8)) B0 A0 ?_;exact cR
 obtain rfl:j=p.length:=p0
 rw[eH]at hjl⊢;refine go ?_;generalize hcs:(gW (p.map λx=>IntKind.u8.wrap x) 256).map (Value.int .u8)=cs;have hcl:cs.length=256:=by rw[<- hcs,aS,zo p0]
 have hrd:jh (jU cs 0) 256=some cs:=by rw[oH,pE,vI,if_pos p0,<- hcl,eH]
 refine(Vm (cs:=cs) (c:=cs) rfl rfl rfl .here hrd).h ?_;refine(O3 (cs:=cs) (vs:=cs) (c:=cs) rfl rfl rfl (by rw[vO,hcl];rfl) .here (aaj cs)).h ?_;refine go ?_;exact oM () (hr:=.qE rfl .here hrd .nil) (hv:=rfl) (hp:=trivial)
open Go.Ideal Kd Canon Go.Shelf Go.Sort
def aor:SWO (ltOf (fQ fZ)):=by
 have h:=Au Ch;have hz:=h.zero;have hn:=h.neg;have ht:=h.trans;refine⟨λx=>?_,λx y z h1 h2=>?_,λx y z h1 h2=>?_⟩
 .have:=(hz x x).2 rfl;exact di p0
 .exact fo (ht x y z (jT h1) (jT h2))
 .have h1:¬fQ fZ x y<0:=vH h1;have h2:¬fQ fZ y z<0:=vH h2;refine di λh3=>?_;by_cases e1:fQ fZ x y=0
  .rw[(hz x y).1 e1]at h3;exact h2 h3
  by_cases e2:fQ fZ y z=0
  .rw[<- (hz y z).1 e2]at h3;exact h1 h3
  have h4:=(hn z y).2 p0;have h5:=(hn y x).2 p0;have h6:=ht z y x h4 h5;have h7:=(hn z x).1 h6;omega
def aos:KT prog 79 1 uR:=ah6 λα _ enc cf g cb blk off cap d w h1 hO eg hcmp hH hblk hsz=>Any.slices_SortFunc Tryz.laysT6 enc h1 cf hO g cb blk off cap d w eg hcmp hH hblk hsz
def aot:PM prog 79:=λp cap fv w=>AnyF.slices_SortFunc_none {Tryz.laysT6 with} p cap fv w
def aak(f:eD)(h2:(prog.funcs[f]?).map (λf=>f.name== "runtime.NumGoroutine")=some false)(h3:(prog.funcs[f]?).map (λf=>f.body.isSome)=some true):∃fn body,prog.funcs[f]? =some fn/\fn.body=some body/\fn.name≠ "runtime.NumGoroutine" :=by
 cases hfn:prog.funcs[f]? with
 |none=>rw[hfn]at h2;cases h2
 |some fn=>
  rw[hfn]at h2 h3;have h2:(fn.name== "runtime.NumGoroutine")=false:=Option.some.inj h2;have h3:fn.body.isSome=true:=Option.some.inj h3;obtain⟨body,hb⟩:=Dn.1 h3;exact⟨fn,body,rfl,hb,sq⟩
def aou{a:aj Addr}{xs:ae (ae Int)}(hm:m=xs.length)(hl:xs.length<4611686018427387904)(hx:∀x∈xs,x.length<=1000000):
 bA prog (.func 79) [.slice a m m,.func (.func 80) ⟨[]⟩ ⟨[]⟩] [] [ap (az ai) (.slice a m m) xs] [] (λ_:ae (ae Int)=>.tuple ⟨[]⟩) (λys=>[ap (az ai) (.slice a m m) ys]) (λ_=>[]) (λys=>ys.Perm xs/\ys.Pairwise λx y=>¬fQ fZ y x<0):=by
 subst hm;obtain⟨fn,body,h1,h2,h3⟩:=aak 79 qk qk;obtain⟨gn,KU,g1,g2,g3⟩:=aak 80 qk qk;exact ah4 (E:=az ai) (xs:=xs) (F:=[]) (cap:=[]) RQ ah7 aos aot h1 h2 h3 g1 g2 g3 rfl qv aor (λx hxm y hym va vb=>Y6 (hx x hxm) (hx y hym)) hl
def zD(l:ae (ae Int)):ae (Key×ah):=l.map λp=>(lc p,.bool true)
def aal{n:Nat}{p:ae Int}(hn:n<=256)(hp:bC n p):∀{l:ae (ae Int)},(∀q∈l,bC n q)->jd false (.bool false) (lc p) (zD l)=.bool (decide (p∈l))
 |[],_=>rfl
 |c::l,h=>by
  have ih:=aal hn hp (l:=l) (λq hq=>h q (dO _ hq));have hc:=h c (dP ..);unfold jd at ih⊢;have e:bZ (lc p) (zD (c::l))=if lc p=lc c then some (Value.bool true)else bZ (lc p) (zD l):=rfl
  rw[e];by_cases hh:lc p=lc c
  .have:=aai hn hp.dN hc.dN hp.len hc.len hh;rw[if_pos hh,fo (by rw[this];exact dP ..)];rfl
  .rw[if_neg hh];refine ih.trans ?_;congr 1;exact sP.2 ⟨dO _,λe=>(bN.1 e).elim (λe=>absurd (by rw[e]) hh) id⟩
def aam{n:Nat}{p:ae Int}(hn:n<=256)(hp:bC n p):∀{l:ae (ae Int)},(∀q∈l,bC n q)->p∉l->upd (lc p) (.bool true) (zD l)=zD (l++[p])
 |[],_,_=>rfl
 |c::l,h,hno=>by
  have hc:=h c (dP ..);have h1:lc p≠lc c:=λe=>hno (by rw[aai hn hp.dN hc.dN hp.len hc.len e];exact dP ..);show(if lc p=lc c then _ else(lc c,Value.bool true)::upd (lc p) (.bool true) (zD l))=_;rw[if_neg h1,aam hn hp (λq hq=>h q (dO _ hq)) (λe=>hno (dO _ e))];rfl
structure aov(n:Nat)(fB:List (List Int))(G:List (List Int))(e:Int):Prop where
 err:e≠0->G=[]/\((∀g∈fB,bC n g)->e=2)
 ok:e=0->∃l,oh n fB l l.length/\G.Perm l/\l.length<=4096/\G.Pairwise λx y=>¬fQ fZ y x<0
structure aow where
 v:Value
 G:List (List Int)
 e:Int
def aox(hn:n<=256)(hl:fB.length<2^63)(hls:∀g∈fB,g.length<2^63):
 bA prog (.func 41) [iV (n:Int),v] [] [] [aA (az ai) v fB] (λy:aow=>.tuple ⟨[y.v,iV y.e]⟩) (λy=>[ap (az ai) y.v y.G]) (λ_=>[]) (λy=>aov n fB y.G y.e):=by
 refine gB 41 λB w0=>?_;refine gF (az ai) v fB λag cg eg=>?_;subst eg;refine gC (aog (n:=n) (v:=.slice ag fB.length cg) (L:=fB) hn hl hls) λe he=>?_;refine aP ?_ ?_<;>intro h1
 .refine go ?_;refine mF (az ai) ?_;exact gQ ⟨.slice none 0 0,[],e⟩ ⟨λ_=>⟨rfl,λh=>(he.2 h).resolve_left h1⟩,λh=>absurd h h1⟩ (hk:=w8)
 have hz:e=0:=lV.1 h1;subst hz;have hG:aaf n fB:=he.1.1 rfl;clear he;refine go ?_;refine ww n ⟨p0,p0,p0⟩ λbm=>?_;rw[EX];refine go ?_;refine dS (λj:Nat=>n - j) (λj=>[(23,iV (j:Int))]) (λj=>[pt bm (.cells ((gW (upTo' j) n).map iV))]) (λ_=>[]) (λj=>j<=n) 0 (bS _) (hk:=qn) (body:=?_);intro j hj;have qi:=jL j;refine aP ?_ ?_<;>intro h5
 .refine go ?_;refine jG (b:=bm) (o:=0+j*1) (cs:=(gW (upTo' j) n).map iV) (v:=iV (j:Int)) (cs':=(gW (upTo' (j+1)) n).map iV) BY A0 ?_;exact cR
 obtain rfl:j=n:=p0
 rw[CY qi];refine gZ (R5 (bm:=bm) (n:=j)) ?_;refine go ?_;intro b32;refine go ?_;refine wz zC (λbs=>?_);refine gC (R9 (v:=.slice (some ⟨bm,0,some 0⟩) j j) (p:=upTo' j) p0) λ_ _=>?_;refine tu R8 (lc (upTo' j)) ?_ (ha:=rfl);rw[show upd (lc (upTo' j)) (Value.bool true) []=zD [upTo' j]from rfl];refine aoi (b:=b32) (v:=.slice (some ⟨bm,0,some 0⟩) j j) (p:=upTo' j) ?_;refine go ?_;refine dS (λy:Nat×ah×ae (ae Int)=>4097 - y.1) (λy=>[(9,iV (y.1:Int)),(4,y.2.1)]) (λy=>[ap (az ai) y.2.1 y.2.2,fw zC bs (zD y.2.2)]) (λ_=>[]) (λy=>oh j fB y.2.2 y.1/\y.1<=y.2.2.length/\y.2.2.length<=4096) (0,.slice (some ⟨b32,0,some 0⟩) 1 1,[upTo' j]) ⟨aol hG.all,bS _,by show 1<=4096;omega⟩ (hk:=qn) (body:=?_);rintro⟨at_,v4,l⟩ ⟨hC,hat,hlm⟩;dsimp only at hC hat hlm⊢;refine K6 (E:=az ai) (v:=v4) (xs:=l) λa4 e4 hnil=>?_;subst e4;refine aP ?_ ?_<;>intro h2
 rotate_left
 .obtain rfl:at_=l.length:=by omega
  refine gC (aou (a:=a4) (m:=l.length) (xs:=l) rfl p0 (λx hx=>by have:=(R6 hC x hx).len;omega)) λys hys=>?_;refine go ?_;exact gQ ⟨.slice a4 l.length l.length,ys,0⟩ ⟨λh=>absurd rfl h,λ_=>⟨l,hC,hys.1,hlm,hys.2⟩⟩
 have hq:l[at_]? =some (l[at_]'(p0)):=bH _;generalize hqe:l[at_]'(p0)=q at hq;have Sa:=hC.perm at_ q hq;refine go ?_;refine dS (λy:Nat×ah×ae (ae Int)=>fB.length - y.1) (λy=>[(45,iV (y.1:Int)),(4,y.2.1)]) (λy=>[ap (az ai) y.2.1 y.2.2,fw zC bs (zD y.2.2)]) (λ_=>[]) (λy=>y.1<=fB.length/\oh j fB y.2.2 at_/\y.2.2[at_]? =some q/\y.2.2.length<=4096/\∀g∈fB.take y.1,cz g q∈y.2.2) (0,.slice a4 l.length l.length,l) ⟨bS _,hC,hq,hlm,λg hg=>by cases hg⟩ (hk:=qn) (body:=?_);clear hC hat hlm hnil h2 hq hqe;rintro⟨i,v4,l⟩ ⟨hi,hC,hq,hlm,hall⟩;dsimp only at hi hC hq hlm hall⊢;have hat:=(aT.1 hq).1;refine aP ?_ ?_<;>intro h2
 rotate_left
 .obtain rfl:i=fB.length:=by omega
  rw[eH]at hall;refine go ?_;exact aY (at_+1,v4,l) (by show 4097 - (at_+1)<4097 - at_;omega) ⟨aok hC hq hall,by show at_+1<=l.length;omega,hlm⟩
 refine K6 (E:=az ai) (v:=v4) (xs:=l) λa5 e5 hnil=>?_;subst e5;refine gX (az ai) (xs:=fB) λ_ _ g (vg:ah) hg=>?_;have hgm:=aV hg;have hgp:=hG.all g hgm;refine go ?_;refine MB at_ q hq λ_ _ vq=>?_;refine gC (amg (a:=g) (b:=q) (n:=j) hgp.len Sa.dN (by have:=Sa.len;omega)) λbp _=>?_;have hcl:(cz g q).length=q.length:=by unfold cz;rw[aS]
 have MH:bC j (cz g q):=hgp.comp Sa;refine gZ (Av (b:=bp) (f:=0) (c:=q.length) (xs:=cz g q) (hc:=p0)) ?_;rw[hcl];generalize hpe:cz g q=p at *;refine gC (R9 (v:=.slice (some ⟨bp,0,some 0⟩) q.length q.length) (p:=p) (by have:=MH.len;omega)) λ_ _=>?_;refine go ?_;refine Cw R8 (lc p) ?_ (ha:=rfl);rw[aal hn MH (R6 hC)];by_cases hm:p∈l
 .rw[fo hm];refine go ?_;exact aY (i+1,.slice a5 l.length l.length,l) AN ⟨by show i+1<=_;omega,hC,hq,hlm,λg' hg'=>by
   rw[gz hg]at hg';rcases fO.1 hg' with h|h
   .exact hall g' h
   .rw[bF.1 h,hpe];exact hm⟩
 rw[di hm];refine aP ?_ ?_<;>intro h3
 .refine go ?_;refine mF (az ai) ?_;exact gQ ⟨.slice none 0 0,[],2⟩ ⟨λ_=>⟨rfl,λ_=>rfl⟩,λh=>by cases h⟩ (hk:=w8)
 refine gC (R9 (v:=.slice (some ⟨bp,0,some 0⟩) q.length q.length) (p:=p) (by have:=MH.len;omega)) λ_ _=>?_;refine go ?_;refine tu R8 (lc p) ?_ (ha:=rfl);rw[aam hn MH (R6 hC) hm];refine go ?_;intro b67;refine l7 (az ai) (v:=.slice a5 l.length l.length) (xs:=l) p (.slice (some ⟨bp,0,some 0⟩) q.length q.length) (cs:=[.slice (some ⟨bp,0,some 0⟩) q.length q.length]) p0 (next:=λv6=>?_);refine go ?_;have hsn:=aoj hC hgm hq (by rw[hpe];exact hm);rw[hpe]at hsn;exact aY (i+1,.slice v6 (l.length+1) (l.length+1),l++[p]) AN ⟨by show i+1<=_;omega,hsn,by show(l++[p])[at_]? =some q;rw[iY hat];exact hq,by show(l++[p]).length<=4096;rw[dL,qA];omega,λg' hg'=>by
  show cz g' q∈l++[p]
  rw[gz hg]at hg';rcases fO.1 hg' with h|h
  .exact jS _ (hall g' h)
  .rw[bF.1 h,hpe];exact ou _ (bF.2 rfl)⟩
